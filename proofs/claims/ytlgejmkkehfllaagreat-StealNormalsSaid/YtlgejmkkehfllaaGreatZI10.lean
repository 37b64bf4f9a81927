/- StealNormals: whatever shares it is called with, the call returns true, and the argument reads as it did. No conditions. -/
import Derived.Test.YtlgejmkkehfllaaGreatZ4
import Derived.Test.YtlgejmkkehfllaaGreatZ13
import Derived.Test.YtlgejmkkehfllaaGreatRows
import Derived.Lib.SmallJoins
namespace Go.Proofs.YtlgejmkkehfllaaGreat
open Go.ChangeShapes Go.WideShapes Go.ChangeAt Go.RowKit Go.Joins Iso
theorem Tryz.ownX : ownKnob Tryz.prog.godebug = none := by kernel_rfl
theorem Tryz.laidX : laidOutB Tryz.prog = true := by kernel_rfl
theorem Tryz.rowedX : mapsRowed Tryz.prog = true := by kernel_rfl
theorem Tryz.slicesX : ((List.range Tryz.prog.types.size).all fun t => match Tryz.prog.underlying t with | some (.slice e) => decide (0 < Tryz.prog.cellsOf e) | _ => true) = true := by kernel_rfl
theorem Tryz.cells62X : Tryz.prog.cellsOf 62 = 4 := by kernel_rfl
theorem Tryz.cells32X : Tryz.prog.cellsOf 32 = 3 := by kernel_rfl
theorem Tryz.cells30X : Tryz.prog.cellsOf 30 = 2 := by kernel_rfl
theorem Tryz.cells28X : Tryz.prog.cellsOf 28 = 1 := by kernel_rfl
theorem Tryz.cells3X : Tryz.prog.cellsOf 3 = 1 := by kernel_rfl
theorem Tryz.cells4X : Tryz.prog.cellsOf 4 = 1 := by kernel_rfl
theorem Tryz.cells139X : Tryz.prog.cellsOf 139 = 1 := by kernel_rfl
theorem Tryz.under139X : Tryz.prog.underlying 139 = some (.int .u64) := by kernel_rfl
section
variable {H : Type} {enc : TypeId × Value → H} {W : World} {held : Bool}
/-- A magnitude among the arguments. -/
theorem open_mag {fuel : Nat} {c : Value} {x : DataW H × List MemPlace} (h : DataW.trod enc Tryz.prog W 0 (fun _ => true) held fuel 28 [c] = some x) : ∃ ds v, IsSl ds v ∧ Dig ds ∧ VR ρ0 W v c := by
  rcases open_slice Tryz.underlying28 Tryz.cells139X (by decide) h with ⟨oa, rfl⟩ | ⟨B, o, len, cap, rfl, hlc, hB, hc⟩
  · exact ⟨[], .lit (.slice oa 0 0), .inr ⟨rfl, oa, rfl⟩, Dig.nil, by simp [VR]⟩
  obtain ⟨ds, hl, hd⟩ := pickL (fun i (d : Nat) => d < B64 ∧ W.cell? ⟨B, o + i, none⟩ = some (.int .u64 (d : Int))) len fun i hi => by
    obtain ⟨cs, n, y, h1, h2, h3⟩ := hc i hi
    obtain ⟨k, rfl, _, hk⟩ := DataW.trod_int Tryz.under139X h3
    have h4 := h2 0 (by decide)
    simp only [Lit.wf, Bool.and_eq_true, decide_eq_true_eq] at hk
    obtain ⟨k1, k2⟩ := hk
    have k1 : (0 : Int) ≤ k := k1
    have k2 : k ≤ 18446744073709551615 := k2
    refine ⟨k.toNat, by simp only [B64]; omega, ?_⟩
    rw [Int.toNat_of_nonneg k1]
    simpa using h4
  refine ⟨ds, .vs (digV ds) ds.length, .inl rfl, fun d hd' => ?_, ?_⟩
  · obtain ⟨i, hi⟩ := List.mem_iff_getElem?.1 hd'
    exact (hd i d hi).1
  · simp only [VR]
    refine ⟨B, o, cap, by rw [hl], by omega, imm0 hB, VRrow.of_get fun i v hv => ?_⟩
    simp only [digV, List.getElem?_map, Option.map_eq_some_iff] at hv
    obtain ⟨d, h1, rfl⟩ := hv
    exact ⟨_, (hd i d h1).2, by simp [VR]⟩
/-- A share among the arguments. -/
theorem open_share {fuel : Nat} {cs : List Value} {x : DataW H × List MemPlace} (hl : cs.length = 4) (h : DataW.trod enc Tryz.prog W 0 (fun _ => true) held fuel 62 cs = some x) :
    ∃ s : Shr, (∃ b ms ds, s.come b ms ds) ∧ ∀ (k : Nat) (v : V), s.cs[k]? = some v → ∃ u : Value, cs[k]? = some u ∧ VR ρ0 W v u := by
  match cs, hl with
  | [u0, u1, u2, u3], _ =>
  obtain ⟨xs, n, _, _, _, hxl, hf⟩ := DataW.trod_struct Tryz.underlying62 h
  have hxl : xs.length = 2 := hxl
  match xs, hxl with
  | [x0, x1], _ =>
  have h0 : DataW.trod enc Tryz.prog W 0 (fun _ => true) held n 3 (([u0, u1, u2, u3].drop 0).take (Tryz.prog.cellsOf 3)) = some x0 := hf 0 _ rfl
  have h1 : DataW.trod enc Tryz.prog W 0 (fun _ => true) held n 32 (([u0, u1, u2, u3].drop 1).take (Tryz.prog.cellsOf 32)) = some x1 := hf 1 _ rfl
  rw [Tryz.cells3X] at h0
  rw [Tryz.cells32X] at h1
  have h0 : DataW.trod enc Tryz.prog W 0 (fun _ => true) held n 3 [u0] = some x0 := h0
  have h1 : DataW.trod enc Tryz.prog W 0 (fun _ => true) held n 32 [u1, u2, u3] = some x1 := h1
  obtain ⟨z, e0, _, hz⟩ := DataW.trod_int Tryz.underlying3 h0
  cases e0
  obtain ⟨ys, n2, _, _, _, hyl, hg⟩ := DataW.trod_struct Tryz.underlying32 h1
  have hyl : ys.length = 2 := hyl
  match ys, hyl with
  | [y0, y1], _ =>
  have g0 : DataW.trod enc Tryz.prog W 0 (fun _ => true) held n2 30 (([u1, u2, u3].drop 0).take (Tryz.prog.cellsOf 30)) = some y0 := hg 0 _ rfl
  have g1 : DataW.trod enc Tryz.prog W 0 (fun _ => true) held n2 28 (([u1, u2, u3].drop 2).take (Tryz.prog.cellsOf 28)) = some y1 := hg 1 _ rfl
  rw [Tryz.cells30X] at g0
  rw [Tryz.cells28X] at g1
  have g0 : DataW.trod enc Tryz.prog W 0 (fun _ => true) held n2 30 [u1, u2] = some y0 := g0
  have g1 : DataW.trod enc Tryz.prog W 0 (fun _ => true) held n2 28 [u3] = some y1 := g1
  obtain ⟨zs, n3, _, _, _, hzl, hk⟩ := DataW.trod_struct Tryz.underlying30 g0
  have hzl : zs.length = 2 := hzl
  match zs, hzl with
  | [z0, z1], _ =>
  have k0 : DataW.trod enc Tryz.prog W 0 (fun _ => true) held n3 4 (([u1, u2].drop 0).take (Tryz.prog.cellsOf 4)) = some z0 := hk 0 _ rfl
  have k1 : DataW.trod enc Tryz.prog W 0 (fun _ => true) held n3 28 (([u1, u2].drop 1).take (Tryz.prog.cellsOf 28)) = some z1 := hk 1 _ rfl
  rw [Tryz.cells4X] at k0
  rw [Tryz.cells28X] at k1
  have k0 : DataW.trod enc Tryz.prog W 0 (fun _ => true) held n3 4 [u1] = some z0 := k0
  have k1 : DataW.trod enc Tryz.prog W 0 (fun _ => true) held n3 28 [u2] = some z1 := k1
  obtain ⟨b, eb, _⟩ := DataW.trod_bool Tryz.underlying4 k0
  cases eb
  obtain ⟨ms, m, m1, m2, m3⟩ := open_mag k1
  obtain ⟨ds, d, d1, d2, d3⟩ := open_mag g1
  simp only [Lit.wf, Bool.and_eq_true, decide_eq_true_eq] at hz
  refine ⟨⟨z, .lit (.bool b), m, d⟩, ⟨b, ms, ds, rfl, m1, m2, d1, d2, hz.1, by have : z ≤ 9223372036854775807 := hz.2; show z < 9223372036854775808; omega⟩, fun k v hv => ?_⟩
  match k, hv with
  | 0, hv => cases hv; exact ⟨_, rfl, by simp [VR]⟩
  | 1, hv => cases hv; exact ⟨_, rfl, by simp [VR]⟩
  | 2, hv => cases hv; exact ⟨_, rfl, m3⟩
  | 3, hv => cases hv; exact ⟨_, rfl, d3⟩
  | k + 4, hv => simp [Shr.cs] at hv
theorem shs_get {l : List Shr} {i : Nat} {v : V} (h : (shs l)[i]? = some v) : ∃ s, l[i / 4]? = some s ∧ s.cs[i % 4]? = some v := by
  induction l generalizing i with
  | nil => simp [shs] at h
  | cons s r ih =>
    rw [shs_cons] at h
    rcases Nat.lt_or_ge i 4 with h4 | h4
    · rw [List.getElem?_append_left (by simp [Shr.cs]; omega)] at h
      rw [Nat.div_eq_of_lt h4, Nat.mod_eq_of_lt h4]
      exact ⟨s, rfl, h⟩
    · rw [List.getElem?_append_right (by simp [Shr.cs]; omega)] at h
      obtain ⟨t, h1, h2⟩ := ih (i := i - 4) (by simpa [Shr.cs] using h)
      refine ⟨t, ?_, ?_⟩
      · rw [show i / 4 = (i - 4) / 4 + 1 by omega]; exact h1
      · rw [show i % 4 = (i - 4) % 4 by omega]; exact h2
/-- Shares among the arguments. -/
theorem open_shares {fuel : Nat} {c : Value} {x : DataW H × List MemPlace} (h : DataW.trod enc Tryz.prog W 0 (fun _ => true) held fuel 52 [c] = some x) :
    ∃ l v, IsShs l v ∧ (∀ s ∈ l, ∃ b ms ds, s.come b ms ds) ∧ VR ρ0 W v c := by
  rcases open_slice Tryz.underlying52 Tryz.cells62X (by decide) h with ⟨oa, rfl⟩ | ⟨B, o, len, cap, rfl, hlc, hB, hc⟩
  · exact ⟨[], .lit (.slice oa 0 0), .inr ⟨rfl, oa, rfl⟩, (fun s hs => by cases hs), by simp [VR]⟩
  obtain ⟨l, hl, hd⟩ := pickL (fun i (s : Shr) => (∃ b ms ds, s.come b ms ds) ∧ ∀ (k : Nat) (v : V), s.cs[k]? = some v → ∃ u : Value, W.cell? ⟨B, o + i * 4 + k, none⟩ = some u ∧ VR ρ0 W v u) len fun i hi => by
    obtain ⟨cs, n, y, h1, h2, h3⟩ := hc i hi
    obtain ⟨s, h4, h5⟩ := open_share h1 h3
    refine ⟨s, h4, fun k v hk => ?_⟩
    obtain ⟨u, h6, h7⟩ := h5 k v hk
    exact ⟨u, by rw [h2 k (by have := (List.getElem?_eq_some_iff.1 hk).1; simpa [Shr.cs] using this), h6], h7⟩
  refine ⟨l, .vs (shs l) l.length, .inl rfl, fun s hs => ?_, ?_⟩
  · obtain ⟨i, hi⟩ := List.mem_iff_getElem?.1 hs
    exact (hd i s hi).1
  · simp only [VR]
    refine ⟨B, o, cap, by rw [hl], by omega, imm0 hB, VRrow.of_get fun i v hv => ?_⟩
    obtain ⟨s, h1, h2⟩ := shs_get hv
    obtain ⟨u, h3, h4⟩ := (hd _ s h1).2 _ v h2
    exact ⟨u, by rw [show o + i = o + i / 4 * 4 + i % 4 by omega]; exact h3, h4⟩
end
set_option maxRecDepth 100000 in
theorem stealNormals_lifted (os : Os) (started : os.Started) (H : Type) (enc : TypeId × Value → H) :
    ReturnsInHanded {} Tryz.checked os 5 .any (Rows.stealNormalsSpec.pre6 enc Tryz.prog Tryz.f5 Rows.stealNormalsRow.domain false) (Rows.stealNormalsSpec.post enc Tryz.prog Tryz.f5 false true false false) := by
  refine returnsInHanded_of_change (C := Tryz.checked) Tryz.ownX started (by kernel_rfl) Tryz.func5
    (ChangeSpec.witness6 (enc := enc) (C := Tryz.checked) false ⟨#[], #[.slice none 0 0], []⟩ 8 (by kernel_rfl) (by kernel_rfl) (by kernel_rfl) (by kernel_rfl)) ?_
  intro W base args ds gs before hval0 hW hcnd _
  have hval : ∀ (j : Nat) t v, Tryz.f5.params[j]? = some t → args[j]? = some v → Value.okWide Tryz.prog W .any base t v := hval0
  have hW' := hW
  obtain ⟨p, q, hA0, hV, rfl, hfz, hnd⟩ := hW
  have hA : DataW.TrodAll enc Tryz.prog W 0 (fun _ => true) true Tryz.f5.params.toList args.toList ds p := hA0
  rw [Tryz.params5] at hA hval
  obtain ⟨v0, d0, rfl, rfl, h0⟩ := trodAll_one hA
  obtain ⟨rfl, rfl⟩ := trodVars_none hV
  obtain ⟨a, len, cap, rfl⟩ := okWide_slice Tryz.underlying52 (hval 0 52 v0 rfl rfl)
  obtain ⟨fuel, h0⟩ := h0
  obtain ⟨l, v, hv, hcome, hvr⟩ := open_shares (c := .slice a len cap) h0
  have hc := law_calls (P := Tryz.prog) (W := W) (fn_law5 l v hv hcome H0) (xs := [.slice a len cap]) (by
    simp only [VRs]
    exact ⟨_, _, rfl, hvr, rfl⟩)
  refine hc.mono fun ex W' ⟨he, ho⟩ => ?_
  subst he
  exact ⟨_, rfl, law_post (tb := 4) ho Tryz.laidX Tryz.rowedX Tryz.slicesX (by rw [Tryz.params5]; decide +kernel) rfl (by kernel_rfl) Tryz.underlying4 hW' rfl⟩
theorem stealNormals_holds : Rows.StealNormalsSaid :=
  OpenClaim.holds_of_wide 5 Tryz.f5 rfl rfl rfl rfl rfl rfl rfl ⟨rfl, rfl, rfl, rfl, rfl⟩ rfl rfl rfl rfl rfl (by kernel_rfl) Tryz.func5 (by kernel_rfl)
    (of_decide_eq_true (by kernel_rfl)) (by unfold Func.isWrapper; first | (rw [if_pos (by decide +kernel)]; kernel_rfl) | (rw [if_neg (by decide +kernel)]; exact ⟨rfl, rfl⟩))
    (fun os started H enc _ => stealNormals_lifted os started H enc)
#print axioms stealNormals_holds
end Go.Proofs.YtlgejmkkehfllaaGreat
