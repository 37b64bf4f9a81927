/- LaceRatios: whatever two points and two numbers it is called with, the call returns true, and the arguments read as they did. No conditions. -/
import Derived.Test.YtlgejmkkehfllaaGreatZ6
import Derived.Test.YtlgejmkkehfllaaGreatZ19
import Derived.Test.YtlgejmkkehfllaaGreatRows
import Derived.Lib.SmallJoins
namespace Go.Proofs.YtlgejmkkehfllaaGreat
open Go.ChangeShapes Go.WideShapes Go.ChangeAt Go.RowKit Go.Joins Iso

theorem Tryz.ownX : ownKnob Tryz.prog.godebug = none := by kernel_rfl
theorem Tryz.laidX : laidOutB Tryz.prog = true := by kernel_rfl
theorem Tryz.rowedX : mapsRowed Tryz.prog = true := by kernel_rfl
theorem Tryz.slicesX : ((List.range Tryz.prog.types.size).all fun t => match Tryz.prog.underlying t with | some (.slice e) => decide (0 < Tryz.prog.cellsOf e) | _ => true) = true := by kernel_rfl
theorem Tryz.cells23X : Tryz.prog.cellsOf 23 = 2 := by kernel_rfl
theorem Tryz.cells24X : Tryz.prog.cellsOf 24 = 2 := by kernel_rfl
theorem Tryz.cells3X : Tryz.prog.cellsOf 3 = 1 := by kernel_rfl

section
variable {H : Type} {enc : TypeId × Value → H} {W : World} {base : Nat} {sp : Nat → Bool} {held : Bool}
set_option maxRecDepth 100000 in
/-- A point among the arguments. -/
theorem open_pt {r : Reach} {b0 : Nat} {v : Value} {d : DataW H} {p : List MemPlace} (hv : Value.okWide Tryz.prog W r b0 23 v) (h : DataW.Trod enc Tryz.prog W base sp held 23 v d p) : ∃ x y : Int, v = .agg #[.int .i64 x, .int .i64 y] := by
  obtain ⟨c0, c1, y0, y1, m, rfl, _, _, h0, h1⟩ := open_agg2 Tryz.underlying23 (by kernel_rfl) Tryz.cells23X hv h
  obtain ⟨a, e0, _⟩ := DataW.trod_int Tryz.underlying3 h0
  obtain ⟨b, e1, _⟩ := DataW.trod_int Tryz.underlying3 h1
  simp at e0 e1
  subst e0 e1
  exact ⟨a, b, rfl⟩
set_option maxRecDepth 100000 in
/-- Two numbers among the arguments. -/
theorem open_two {r : Reach} {b0 : Nat} {v : Value} {d : DataW H} {p : List MemPlace} (hv : Value.okWide Tryz.prog W r b0 24 v) (h : DataW.Trod enc Tryz.prog W base sp held 24 v d p) : ∃ x y : Int, v = .agg #[.int .i64 x, .int .i64 y] := by
  have hu : Tryz.prog.underlying 24 = some (.array 2 3) := Tryz.underlying24
  simp only [Value.okWide, hu] at hv
  obtain ⟨cs, rfl, hsz, _⟩ := hv
  rw [Tryz.cells24X] at hsz
  obtain ⟨c0, c1, rfl⟩ := array2 hsz
  obtain ⟨fuel, hf⟩ := h
  obtain ⟨xs, m, _, _, _, hl, hi⟩ := DataW.trod_array hu hf
  have h0 := hi 0 (by decide)
  have h1 := hi 1 (by decide)
  rw [Tryz.cells3X] at h0 h1
  obtain ⟨y0, y1, rfl⟩ : ∃ y0 y1, xs = [y0, y1] := by
    match xs, hl with
    | [a, b], _ => exact ⟨a, b, rfl⟩
  have h0 : DataW.trod enc Tryz.prog W base sp held m 3 [c0] = some y0 := h0
  have h1 : DataW.trod enc Tryz.prog W base sp held m 3 [c1] = some y1 := h1
  obtain ⟨a, e0, _⟩ := DataW.trod_int Tryz.underlying3 h0
  obtain ⟨b, e1, _⟩ := DataW.trod_int Tryz.underlying3 h1
  simp at e0 e1
  subst e0 e1
  exact ⟨a, b, rfl⟩
end

theorem VRs_pt {W : World} {x y : Int} : VR ρ0 W (.agg [.lit (.int .i64 x), .lit (.int .i64 y)]) (.agg #[.int .i64 x, .int .i64 y]) := by
  simp [VR, VRs]

set_option maxRecDepth 100000 in
theorem laceRatios_lifted (os : Os) (started : os.Started) (H : Type) (enc : TypeId × Value → H) :
    ReturnsInHanded {} Tryz.checked os 3 .any (Rows.laceRatiosSpec.pre6 enc Tryz.prog Tryz.f3 Rows.laceRatiosRow.domain false) (Rows.laceRatiosSpec.post enc Tryz.prog Tryz.f3 false true false false) := by
  refine returnsInHanded_of_change (C := Tryz.checked) Tryz.ownX started (by kernel_rfl) Tryz.func3
    (ChangeSpec.witness6 (enc := enc) (C := Tryz.checked) false ⟨#[], #[.agg #[.int .i64 0, .int .i64 0], .agg #[.int .i64 0, .int .i64 0], .agg #[.int .i64 0, .int .i64 0]], []⟩ 8 (by kernel_rfl) (by kernel_rfl) (by kernel_rfl) (by kernel_rfl)) ?_
  intro W base args ds gs before hval0 hW hcnd _
  have hval : ∀ (j : Nat) t v, Tryz.f3.params[j]? = some t → args[j]? = some v → Value.okWide Tryz.prog W .any base t v := hval0
  have hW' := hW
  obtain ⟨p, q, hA0, hV, rfl, hfz, hnd⟩ := hW
  have hA : DataW.TrodAll enc Tryz.prog W 0 (fun _ => true) true Tryz.f3.params.toList args.toList ds p := hA0
  rw [Tryz.params3] at hA hval
  obtain ⟨v0, v1, v2, d0, d1, d2, p0, p1, p2, rfl, rfl, rfl, h0, h1, h2⟩ := trodAll_three hA
  obtain ⟨rfl, rfl⟩ := trodVars_none hV
  obtain ⟨a, b, rfl⟩ := open_pt (hval 0 23 v0 rfl rfl) h0
  obtain ⟨c, d, rfl⟩ := open_pt (hval 1 23 v1 rfl rfl) h1
  obtain ⟨e, f, rfl⟩ := open_two (hval 2 24 v2 rfl rfl) h2
  have hc := law_calls (P := Tryz.prog) (W := W) (fn_law3 a b c d e f H0) (xs := [.agg #[.int .i64 a, .int .i64 b], .agg #[.int .i64 c, .int .i64 d], .agg #[.int .i64 e, .int .i64 f]]) (by
    simp only [VRs]
    exact ⟨_, _, rfl, VRs_pt, _, _, rfl, VRs_pt, _, _, rfl, VRs_pt, rfl⟩)
  refine hc.mono fun ex W' ⟨he, ho⟩ => ?_
  subst he
  exact ⟨_, rfl, law_post (tb := 4) ho Tryz.laidX Tryz.rowedX Tryz.slicesX (by rw [Tryz.params3]; decide +kernel) rfl (by kernel_rfl) Tryz.underlying4 hW' rfl⟩

theorem laceRatios_holds : Rows.LaceRatiosSaid :=
  OpenClaim.holds_of_wide 3 Tryz.f3 rfl rfl rfl rfl rfl rfl rfl ⟨rfl, rfl, rfl, rfl, rfl⟩ rfl rfl rfl rfl rfl (by kernel_rfl) Tryz.func3 (by kernel_rfl)
    (of_decide_eq_true (by kernel_rfl)) (by unfold Func.isWrapper; first | (rw [if_pos (by decide +kernel)]; kernel_rfl) | (rw [if_neg (by decide +kernel)]; exact ⟨rfl, rfl⟩))
    (fun os started H enc _ => laceRatios_lifted os started H enc)

#print axioms laceRatios_holds
end Go.Proofs.YtlgejmkkehfllaaGreat
