import Derived.Test.YtlgejmkkehfllaaGreatZ3
import Derived.Test.YtlgejmkkehfllaaGreatProg
import Derived.Test.YtlgejmkkehfllaaGreatZ9
/- The compiled code of functions. -/
namespace Iso
open Go Go.Proofs
def ac96 : AC := (.seq 
  (.reg false [] [⟨(some 4), none, (.new [(.lit (.bool false)), (.lit (.slice none 0 0))])⟩]) (.seq 
  (.reg false [] [⟨(some 5), none, (.mv (.t 1))⟩,
    ⟨(some 6), none, (.call 101 [(.t 5), (.k (.lit (.slice none 0 0)))])⟩,
    ⟨(some 1), none, (.mv (.t 6))⟩]) (.seq 
  (.reg false [] [⟨(some 7), none, (.mv (.t 0))⟩,
    ⟨(some 8), none, (.mv (.t 7))⟩,
    ⟨(some 9), (some (8, true)), (.mv (.t 1))⟩,
    ⟨(some 10), (some (8, true)), (.len (.t 9))⟩,
    ⟨(some 11), (some (8, true)), (.bin .gtr (.t 10) (.k (.lit (.int .i64 0))))⟩,
    ⟨(some 12), none, (.pick (.t 8) (.t 11) (.k (.lit (.bool false))))⟩,
    ⟨(some 13), none, (.mv (.t 1))⟩,
    ⟨(some 14), none, (.bld [(.lit (.bool false)), (.lit (.slice none 0 0))] [(0, (1, (.t 12))), (1, (1, (.t 13)))])⟩,
    ⟨none, none, (.st 2 (.t 4) (.t 14))⟩]) .ret)))
theorem cf96 : compF Tryz.prog 96 = some ⟨15, ac96, [(.cell 4 true 2)]⟩ := by kernel_rfl
def ac45 : AC := (.seq 
  (.reg false [] [⟨(some 2), none, (.new [(.lit (.bool false)), (.lit (.slice none 0 0))])⟩]) (.seq (.seq 
  (.reg false [] [⟨(some 3), none, (.mv (.t 0))⟩,
    ⟨(some 4), none, (.bin .lss (.t 3) (.k (.lit (.int .i64 0))))⟩]) (.cond (.t 4) (.seq 
  (.reg false [] [⟨(some 5), none, (.mv (.t 0))⟩,
    ⟨(some 6), none, (.cv .u64 (.t 5))⟩,
    ⟨(some 7), none, (.un .neg (.t 6))⟩,
    ⟨(some 8), none, (.call 82 [(.t 7)])⟩,
    ⟨(some 9), none, (.bld [(.lit (.bool false)), (.lit (.slice none 0 0))] [(0, (1, (.k (.lit (.bool true))))), (1, (1, (.t 8)))])⟩,
    ⟨none, none, (.st 2 (.t 2) (.t 9))⟩]) .ret) .skip)) (.seq 
  (.reg false [] [⟨(some 10), none, (.mv (.t 0))⟩,
    ⟨(some 11), none, (.cv .u64 (.t 10))⟩,
    ⟨(some 12), none, (.call 82 [(.t 11)])⟩,
    ⟨(some 13), none, (.bld [(.lit (.bool false)), (.lit (.slice none 0 0))] [(0, (1, (.k (.lit (.bool false))))), (1, (1, (.t 12)))])⟩,
    ⟨none, none, (.st 2 (.t 2) (.t 13))⟩]) .ret)))
theorem cf45 : compF Tryz.prog 45 = some ⟨14, ac45, [(.cell 2 true 2)]⟩ := by kernel_rfl
def ac61 : AC := (.seq 
  (.reg false [] [⟨(some 1), none, (.box (.t 0))⟩,
    ⟨(some 2), none, (.new [(.lit (.bool false)), (.lit (.slice none 0 0))])⟩]) (.seq 
  (.reg false [] [⟨(some 3), none, (.fad 0 (.t 1))⟩,
    ⟨(some 4), none, (.ld false 1 (.t 3))⟩,
    ⟨(some 5), none, (.un .not (.t 4))⟩,
    ⟨(some 6), none, (.fad 1 (.t 1))⟩,
    ⟨(some 7), none, (.ld false 1 (.t 6))⟩,
    ⟨(some 8), none, (.call 96 [(.t 5), (.t 7)])⟩,
    ⟨none, none, (.st 2 (.t 2) (.t 8))⟩]) .ret))
theorem cf61 : compF Tryz.prog 61 = some ⟨9, ac61, [(.cell 2 true 2)]⟩ := by kernel_rfl
def ac64 : AC := (.seq 
  (.reg false [] [⟨(some 2), none, (.box (.t 0))⟩,
    ⟨(some 3), none, (.box (.t 1))⟩,
    ⟨(some 4), none, (.new [(.lit (.bool false)), (.lit (.slice none 0 0))])⟩]) (.seq (.seq 
  (.reg false [] [⟨(some 5), none, (.fad 0 (.t 2))⟩,
    ⟨(some 6), none, (.ld false 1 (.t 5))⟩,
    ⟨(some 7), none, (.fad 0 (.t 3))⟩,
    ⟨(some 8), none, (.ld false 1 (.t 7))⟩,
    ⟨(some 9), none, (.eqb false (.t 6) (.t 8))⟩]) (.cond (.t 9) (.seq 
  (.reg true [[], [0], [], [2], [], [4], [3, 5], [1, 6, 6], [7, 7, 0, 1, 2, 3, 4, 5, 6, 7]] [⟨(some 10), none, (.fad 0 (.t 2))⟩,
    ⟨(some 11), none, (.ld false 1 (.t 10))⟩,
    ⟨(some 12), none, (.fad 1 (.t 2))⟩,
    ⟨(some 13), none, (.ld false 1 (.t 12))⟩,
    ⟨(some 14), none, (.fad 1 (.t 3))⟩,
    ⟨(some 15), none, (.ld false 1 (.t 14))⟩,
    ⟨(some 16), none, (.call 101 [(.t 13), (.t 15)])⟩,
    ⟨(some 17), none, (.call 96 [(.t 11), (.t 16)])⟩,
    ⟨none, none, (.st 2 (.t 4) (.t 17))⟩]) .ret) .skip)) (.seq (.seq 
  (.reg false [] [⟨(some 18), none, (.fad 1 (.t 2))⟩,
    ⟨(some 19), none, (.ld false 1 (.t 18))⟩,
    ⟨(some 20), none, (.fad 1 (.t 3))⟩,
    ⟨(some 21), none, (.ld false 1 (.t 20))⟩,
    ⟨(some 22), none, (.call 107 [(.t 19), (.t 21)])⟩,
    ⟨(some 23), none, (.bin .geq (.t 22) (.k (.lit (.int .i64 0))))⟩]) (.cond (.t 23) (.seq 
  (.reg true [[], [0], [], [2], [], [4], [3, 5], [1, 6, 6], [7, 7, 0, 1, 2, 3, 4, 5, 6, 7]] [⟨(some 24), none, (.fad 0 (.t 2))⟩,
    ⟨(some 25), none, (.ld false 1 (.t 24))⟩,
    ⟨(some 26), none, (.fad 1 (.t 2))⟩,
    ⟨(some 27), none, (.ld false 1 (.t 26))⟩,
    ⟨(some 28), none, (.fad 1 (.t 3))⟩,
    ⟨(some 29), none, (.ld false 1 (.t 28))⟩,
    ⟨(some 30), none, (.call 108 [(.t 27), (.t 29)])⟩,
    ⟨(some 31), none, (.call 96 [(.t 25), (.t 30)])⟩,
    ⟨none, none, (.st 2 (.t 4) (.t 31))⟩]) .ret) .skip)) (.seq 
  (.reg true [[], [0], [], [2], [], [4], [3, 5], [1, 6, 6], [7, 7, 0, 1, 2, 3, 4, 5, 6, 7]] [⟨(some 32), none, (.fad 0 (.t 3))⟩,
    ⟨(some 33), none, (.ld false 1 (.t 32))⟩,
    ⟨(some 34), none, (.fad 1 (.t 3))⟩,
    ⟨(some 35), none, (.ld false 1 (.t 34))⟩,
    ⟨(some 36), none, (.fad 1 (.t 2))⟩,
    ⟨(some 37), none, (.ld false 1 (.t 36))⟩,
    ⟨(some 38), none, (.call 108 [(.t 35), (.t 37)])⟩,
    ⟨(some 39), none, (.call 96 [(.t 33), (.t 38)])⟩,
    ⟨none, none, (.st 2 (.t 4) (.t 39))⟩]) .ret))))
theorem cf64 : compF Tryz.prog 64 = some ⟨40, ac64, [(.cell 4 true 2)]⟩ := by kernel_rfl
def ac56 : AC := (.seq 
  (.reg false [] [⟨(some 2), none, (.box (.t 0))⟩,
    ⟨(some 3), none, (.box (.t 1))⟩,
    ⟨(some 4), none, (.new [(.lit (.bool false)), (.lit (.slice none 0 0))])⟩]) (.seq 
  (.reg true [[], [0], [], [2], [1, 3], [], [5], [], [7], [6, 8], [4, 9, 9], [10, 10, 0, 1, 2, 3, 4, 5, 6, 7, 8, 9, 10]] [⟨(some 5), none, (.fad 0 (.t 2))⟩,
    ⟨(some 6), none, (.ld false 1 (.t 5))⟩,
    ⟨(some 7), none, (.fad 0 (.t 3))⟩,
    ⟨(some 8), none, (.ld false 1 (.t 7))⟩,
    ⟨(some 9), none, (.eqb true (.t 6) (.t 8))⟩,
    ⟨(some 10), none, (.fad 1 (.t 2))⟩,
    ⟨(some 11), none, (.ld false 1 (.t 10))⟩,
    ⟨(some 12), none, (.fad 1 (.t 3))⟩,
    ⟨(some 13), none, (.ld false 1 (.t 12))⟩,
    ⟨(some 14), none, (.call 63 [(.t 11), (.t 13)])⟩,
    ⟨(some 15), none, (.call 96 [(.t 9), (.t 14)])⟩,
    ⟨none, none, (.st 2 (.t 4) (.t 15))⟩]) .ret))
theorem cf56 : compF Tryz.prog 56 = some ⟨16, ac56, [(.cell 4 true 2)]⟩ := by kernel_rfl
def ac66 : AC := (.seq 
  (.reg false [] [⟨(some 1), none, (.box (.t 0))⟩,
    ⟨(some 2), none, (.mv (.k (.lit (.int .i64 0))))⟩]) (.seq (.block 0 (.seq 
  (.reg false [] [⟨(some 4), none, (.fad 1 (.t 1))⟩,
    ⟨(some 5), none, (.ld false 1 (.t 4))⟩,
    ⟨(some 6), none, (.call 103 [(.t 5)])⟩,
    ⟨(some 7), none, (.bin .eql (.t 6) (.k (.lit (.int .i64 0))))⟩,
    ⟨(some 3), none, (.mv (.t 7))⟩]) (.cond (.t 3) (.seq 
  (.reg false [] [⟨(some 2), none, (.mv (.k (.lit (.int .i64 0))))⟩]) .ret) (.seq 
  (.reg false [] [⟨(some 9), none, (.fad 0 (.t 1))⟩,
    ⟨(some 10), none, (.ld false 1 (.t 9))⟩,
    ⟨(some 8), none, (.mv (.t 10))⟩]) (.cond (.t 8) (.seq 
  (.reg false [] [⟨(some 2), none, (.mv (.k (.lit (.int .i64 (-1)))))⟩]) .ret) .skip))))) (.seq 
  (.reg false [] [⟨(some 2), none, (.mv (.k (.lit (.int .i64 1))))⟩]) .ret)))
theorem cf66 : compF Tryz.prog 66 = some ⟨11, ac66, [(.tmp 2)]⟩ := by kernel_rfl
def ac98 : AC := (.seq 
  (.reg false [] [⟨(some 2), none, (.box (.t 0))⟩,
    ⟨(some 3), none, (.box (.t 1))⟩,
    ⟨(some 4), none, (.new [(.lit (.bool false)), (.lit (.slice none 0 0))])⟩]) (.seq 
  (.reg true [[], [], [1], [0, 2, 2], [3, 3, 0, 1, 2, 3]] [⟨(some 5), none, (.ld true 2 (.t 2))⟩,
    ⟨(some 6), none, (.ld true 2 (.t 3))⟩,
    ⟨(some 7), none, (.call 61 [(.t 6)])⟩,
    ⟨(some 8), none, (.call 64 [(.t 5), (.t 7)])⟩,
    ⟨none, none, (.st 2 (.t 4) (.t 8))⟩]) .ret))
theorem cf98 : compF Tryz.prog 98 = some ⟨9, ac98, [(.cell 4 true 2)]⟩ := by kernel_rfl
def ac80 : AC := (.seq 
  (.reg false [] [⟨(some 2), none, (.box (.t 0))⟩,
    ⟨(some 3), none, (.box (.t 1))⟩,
    ⟨(some 4), none, (.mv (.k (.lit (.int .i64 0))))⟩]) (.seq 
  (.reg true [[], [0], [], [2, 1], [1, 3, 0, 1], [3, 4, 0, 1, 2, 3, 4]] [⟨(some 7), none, (.ld true 2 (.t 2))⟩,
    ⟨(some 8), none, (.call 66 [(.t 7)])⟩,
    ⟨(some 9), none, (.ld true 2 (.t 3))⟩,
    ⟨(some 10), none, (.call 66 [(.t 9)])⟩,
    ⟨(some 5), none, (.mv (.t 8))⟩,
    ⟨(some 6), none, (.mv (.t 10))⟩]) (.seq (.block 0 (.seq 
  (.reg false [] [⟨(some 12), none, (.mv (.t 5))⟩,
    ⟨(some 13), none, (.mv (.t 6))⟩,
    ⟨(some 14), none, (.bin .lss (.t 12) (.t 13))⟩,
    ⟨(some 11), none, (.mv (.t 14))⟩]) (.cond (.t 11) (.seq 
  (.reg false [] [⟨(some 4), none, (.mv (.k (.lit (.int .i64 (-1)))))⟩]) .ret) (.seq 
  (.reg false [] [⟨(some 16), none, (.mv (.t 5))⟩,
    ⟨(some 17), none, (.mv (.t 6))⟩,
    ⟨(some 18), none, (.bin .gtr (.t 16) (.t 17))⟩,
    ⟨(some 15), none, (.mv (.t 18))⟩]) (.cond (.t 15) (.seq 
  (.reg false [] [⟨(some 4), none, (.mv (.k (.lit (.int .i64 1))))⟩]) .ret) .skip))))) (.seq 
  (.reg false [] [⟨(some 19), none, (.mv (.t 5))⟩,
    ⟨(some 20), none, (.fad 1 (.t 2))⟩,
    ⟨(some 21), none, (.ld false 1 (.t 20))⟩,
    ⟨(some 22), none, (.fad 1 (.t 3))⟩,
    ⟨(some 23), none, (.ld false 1 (.t 22))⟩,
    ⟨(some 24), none, (.call 107 [(.t 21), (.t 23)])⟩,
    ⟨(some 25), none, (.bin .mul (.t 19) (.t 24))⟩,
    ⟨(some 4), none, (.mv (.t 25))⟩]) .ret))))
theorem cf80 : compF Tryz.prog 80 = some ⟨26, ac80, [(.tmp 4)]⟩ := by kernel_rfl
end Iso

/- Structures whose cells nobody writes, as steps. Nothing of a program. -/
namespace Iso
open Go
def Imm (v : V) : Prop := ∀ H, v.one H = true
def Imms (vs : List V) : Prop := ∀ H, V.ones H vs = true
theorem Imms.nil : Imms [] := fun _ => rfl
theorem Imms.cons {v : V} {vs : List V} (h : Imm v) (k : Imms vs) : Imms (v :: vs) := fun H => by simp [V.ones, h H, k H]
theorem imm_int (k : IntKind) (n : Int) : Imm (.lit (.int k n)) := fun _ => rfl
theorem imm_bool (b : Bool) : Imm (.lit (.bool b)) := fun _ => rfl
theorem IsSl.imm {ds : List Nat} {v : V} (h : IsSl ds v) : Imm v := fun H => by
  rcases h with rfl | ⟨_, _, rfl⟩ <;> rfl
theorem Imm.cells {v : V} (h : Imm v) (H : AH) (hne : ∀ cs, v ≠ .agg cs) : v.cells? H = some [v] := by
  have := h H
  unfold V.cells?
  split
  · rename_i cs; exact absurd rfl (hne cs)
  · simp [this]
theorem Imm.nagg {v : V} (h : Imm v) : ∀ cs, v ≠ .agg cs := fun cs hc => by
  subst hc; have := h ⟨0, fun _ => none⟩; simp [V.one] at this
theorem Imm.cell {v : V} (h : Imm v) (H : AH) : v.cells? H = some [v] := h.cells H h.nagg
theorem Imms.cells {cs : List V} (h : Imms cs) (H : AH) : (V.agg cs).cells? H = some cs := by simp [V.cells?, h H]
section
variable {ev : Opd → T} {Lg : Nat → Option (List V)} {d : Option Nat} {x y : Opd}
/-- A structure, built of its parts. -/
theorem bld_of {z : List V} {ps : List (Nat × Nat × Opd)} (cs : List V) (h : ∀ H, fillE ev H ps z = some cs) : ∀ H, aopE [] d (.bld z ps) ev Lg H = some ⟨True, .v (.agg cs), {}⟩ := fun H => by
  simp only [aopE, h H]
theorem fill_nil {cs : List V} : ∀ H, fillE ev H [] cs = some cs := fun _ => rfl
theorem fill_cons {off sz : Nat} {ps : List (Nat × Nat × Opd)} {cs cs' r : List V} {u : V} {l : List V} (hx : ev x = .v u) (hu : ∀ H, u.cells? H = some l) (hl : l.length = sz ∧ off + sz ≤ cs.length) (hs : splice cs off l = cs')
    (k : ∀ H, fillE ev H ps cs' = some r) : ∀ H, fillE ev H ((off, sz, x) :: ps) cs = some r := fun H => by
  simp only [fillE, hx, hu H, if_pos hl, hs, k H]
/-- A local variable out of a structure. -/
theorem box_agg {t : Nat} {cs : List V} (hx : ev x = .v (.agg cs)) (hc : Imms cs) (hn : Lg t = none) : ∀ H, aopE [] (some t) (.box x) ev Lg H = some ⟨True, .lp t 0, { slot := some (t, some cs) }⟩ := fun H => by
  simp only [aopE, hx, hc.cells H, hn, List.contains_nil]
theorem box_imm {t : Nat} {u : V} (hx : ev x = .v u) (hu : Imm u) (hn : Lg t = none) : ∀ H, aopE [] (some t) (.box x) ev Lg H = some ⟨True, .lp t 0, { slot := some (t, some [u]) }⟩ := fun H => by
  simp only [aopE, hx, hu.cell H, hn, List.contains_nil]
theorem ld_agg {t o sz : Nat} {cs : List V} (r : List V) (hx : ev x = .lp t o) (hL : Lg t = some cs) (hr : (cs.drop o).take sz = r) (hl : sz ≤ (cs.drop o).length) : ∀ H, aopE [] d (.ld true sz x) ev Lg H = some ⟨True, .v (.agg r), {}⟩ := fun H => by
  simp only [aopE, hx, hL, rd, if_true, if_pos hl, hr, outV]
theorem st_agg {t o sz : Nat} {cs old : List V} (new : List V) (ha : ev x = .lp t o) (hx : ev y = .v (.agg cs)) (hc : Imms cs) (hL : Lg t = some old) (hn : splice old o cs = new) : ∀ H, aopE [] d (.st sz x y) ev Lg H = some ⟨cs.length = sz ∧ o + sz ≤ old.length, .v .any, { slot := some (t, some new) }⟩ := fun H => by
  simp only [aopE, hx, ha, hc.cells H, hL, hn]
theorem st_imm {t o sz : Nat} {old : List V} {u : V} (new : List V) (ha : ev x = .lp t o) (hx : ev y = .v u) (hc : Imm u) (hL : Lg t = some old) (hn : splice old o [u] = new) : ∀ H, aopE [] d (.st sz x y) ev Lg H = some ⟨1 = sz ∧ o + sz ≤ old.length, .v .any, { slot := some (t, some new) }⟩ := fun H => by
  simp only [aopE, hx, ha, hc.cell H, hL, hn]; rfl
theorem fld_agg {off sz : Nat} {cs : List V} (r : List V) (hx : ev x = .v (.agg cs)) (hr : (cs.drop off).take sz = r) (hl : sz ≤ (cs.drop off).length) : ∀ H, aopE [] d (.fld off sz true x) ev Lg H = some ⟨True, .v (.agg r), {}⟩ := fun H => by
  simp only [aopE, hx, rd, if_true, if_pos hl, hr, outV]
end
end Iso

/- Whole numbers with a sign. -/
namespace Iso
open Go Go.Proofs
/-- 'mag.Of'. -/
theorem fn_magOf (x : Nat) (hx : x < B64) (H : AH) : ∃ w, IsMag x w ∧ FN Tryz.prog 82 [.lit (.int .u64 (x : Int))] H w H := by
  suffices h : ∃ w H', FN Tryz.prog 82 [.lit (.int .u64 (x : Int))] H w H' ∧ (IsMag x w ∧ H' = H) by
    obtain ⟨w, H', h1, h2, rfl⟩ := h; exact ⟨w, h2, h1⟩
  obtain ⟨w, hw, fw⟩ := fn_right [x] (.vs (digV [x]) 1) (.inl rfl) (by simp) H
  refine fn_of cf82 (by simp) ?_
  show AWp _ _ _ ac82 _ _
  unfold ac82
  refine awp_seq_sw ?_
  repeat first | refine swV (fun _ => rfl) ?_ | refine sw_l (fun _ => rfl) trivial ?_ | refine sw_ln (fun _ => rfl) ⟨rfl, leB rfl⟩ ?_ | refine sw_vg rfl (fun _ => rfl) trivial ?_ | refine sw_sk rfl rfl ?_
  refine SW.nil (awp_seq_sw ?_)
  repeat first | refine swV (fun _ => rfl) ?_ | refine sw_l (fun _ => rfl) trivial ?_ | refine sw_ln (fun _ => rfl) ⟨rfl, leB rfl⟩ ?_ | refine sw_vg rfl (fun _ => rfl) trivial ?_ | refine sw_sk rfl rfl ?_
  refine sw_call rfl fw ?_
  repeat first | refine swV (fun _ => rfl) ?_ | refine sw_l (fun _ => rfl) trivial ?_ | refine sw_ln (fun _ => rfl) ⟨rfl, leB rfl⟩ ?_ | refine sw_vg rfl (fun _ => rfl) trivial ?_ | refine sw_sk rfl rfl ?_
  refine SW.nil (awp_ret ?_)
  exact ⟨.inr rfl, _, rfl, ⟨trim [x], hw, Dig.trim (Dig.cons hx Dig.nil), trim_trim _, by rw [val_trim]; simp [val]⟩, rfl⟩
def IsNum (z : Int) (v : V) : Prop := ∃ m, v = .agg [.lit (.bool (decide (z < 0))), m] ∧ IsMag z.natAbs m
def BIG : Nat := 2 ^ 4096
/-- A magnitude of bounded size is a short row. -/
theorem short {n : Nat} {ds : List Nat} (ht : trim ds = ds) (hv : val ds = n) (hn : n < BIG * BIG) : ds.length < 2 ^ 39 := by
  rcases Nat.lt_or_ge ds.length 200 with h | h
  · exact Nat.lt_trans h (by decide)
  · exfalso
    have h1 := pow_le_val ht (by rintro rfl; simp at h)
    have h2 : B64 ^ 128 ≤ B64 ^ (ds.length - 1) := Nat.pow_le_pow_right (by decide) (by omega)
    have h3 : BIG * BIG = B64 ^ 128 := by decide +kernel
    omega
theorem bool_lit {b c : Bool} (h : b = c) : T.v (.lit (.bool b)) = T.v (.lit (.bool c)) := by rw [h]
/-- 'num.Make'. -/
theorem fn_numMake (b : Bool) (n : Nat) (m : V) (hm : IsMag n m) (hn : n < BIG * BIG) (H : AH) : ∃ w, IsNum (if b then -(n : Int) else n) w ∧ FN Tryz.prog 96 [.lit (.bool b), m] H w H := by
  suffices h : ∃ w H', FN Tryz.prog 96 [.lit (.bool b), m] H w H' ∧ (IsNum (if b then -(n : Int) else n) w ∧ H' = H) by
    obtain ⟨w, H', h1, h2, rfl⟩ := h; exact ⟨w, h2, h1⟩
  obtain ⟨ds, hs, hd, ht, hv⟩ := hm
  have hl := short ht hv hn
  obtain ⟨m', hm', fa⟩ := fn_add ds [] m (.lit (.slice none 0 0)) hs (.inr ⟨rfl, none, rfl⟩) hd Dig.nil (by omega) (by simp) H
  rw [hv, show val [] = 0 from rfl, Nat.add_zero] at hm'
  obtain ⟨es, hes, hde, hte, hve⟩ := id hm'
  have im := hes.imm
  refine fn_of cf96 (by simp) ?_
  show AWp _ _ _ ac96 _ _
  unfold ac96
  refine awp_seq_sw ?_
  repeat first | refine swV (fun _ => rfl) ?_ | refine sw_l (fun _ => rfl) trivial ?_ | refine sw_ln (fun _ => rfl) ⟨rfl, leB rfl⟩ ?_ | refine sw_vg rfl (fun _ => rfl) trivial ?_ | refine sw_sk rfl rfl ?_
  refine SW.nil (awp_seq_sw ?_)
  repeat first | refine swV (fun _ => rfl) ?_ | refine sw_l (fun _ => rfl) trivial ?_ | refine sw_ln (fun _ => rfl) ⟨rfl, leB rfl⟩ ?_ | refine sw_vg rfl (fun _ => rfl) trivial ?_ | refine sw_sk rfl rfl ?_
  refine sw_call rfl fa ?_
  repeat first | refine swV (fun _ => rfl) ?_ | refine sw_l (fun _ => rfl) trivial ?_ | refine sw_ln (fun _ => rfl) ⟨rfl, leB rfl⟩ ?_ | refine sw_vg rfl (fun _ => rfl) trivial ?_ | refine sw_sk rfl rfl ?_
  refine SW.nil (awp_seq_sw ?_)
  have fin : ∀ A : Env, ∀ c : Bool, (c = decide ((if b then -(n : Int) else n) < 0)) → A.get 12 = .v (.lit (.bool c)) → A.get 1 = .v m' → A.get 4 = .lp 4 0 →
      SW Tryz.prog none 15 [⟨some 13, none, .mv (.t 1)⟩, ⟨some 14, none, .bld [.lit (.bool false), .lit (.slice none 0 0)] [(0, 1, .t 12), (1, 1, .t 13)]⟩, ⟨none, none, .st 2 (.t 4) (.t 14)⟩]
        (fun s' => AWp Tryz.prog none 15 .ret (fun e s' => (e = Exit.normal ∨ e = Exit.ret) ∧ ∃ vs, resVs s' [.cell 4 true 2] = some vs ∧ IsNum (if b then -(n : Int) else n) (resT vs) ∧ s'.H = H) s')
        ⟨A, [(4, [.lit (.bool false), .lit (.slice none 0 0)])], H⟩ := by
    intro A c hc h12 h1 h4
    refine sw_v (x := .v m') (fun _ => by simp only [aopE, Opd.ev, h1]) trivial ?_
    refine sw_v (bld_of [.lit (.bool c), m'] (fill_cons (u := .lit (.bool c)) (l := [.lit (.bool c)]) (by simp [Opd.ev, Env.get, h12]) (fun _ => rfl) ⟨rfl, leB rfl⟩ rfl (fill_cons (u := m') rfl im.cell ⟨rfl, leB rfl⟩ rfl fill_nil))) trivial ?_
    refine sw_ln (st_agg [.lit (.bool c), m'] (t := 4) (o := 0) (by simp [Opd.ev, Env.get, h4]) rfl (Imms.cons (imm_bool c) (Imms.cons im Imms.nil)) rfl rfl) ⟨rfl, leB rfl⟩ ?_
    refine SW.nil (awp_ret ⟨.inr rfl, [.agg [.lit (.bool c), m']], ?_, ?_, rfl⟩)
    · simp [resVs, resV1, Env.get, h4, Loc.get, rd]
    · refine ⟨m', by rw [← hc]; rfl, ?_⟩
      have : (if b then -(n : Int) else n).natAbs = n := by cases b <;> simp
      rw [this]; exact hm'
  cases b with
  | false =>
    refine swV (fun _ => rfl) ?_
    refine swV (fun _ => rfl) ?_
    refine sw_sk rfl rfl ?_
    refine sw_sk rfl rfl ?_
    refine sw_sk rfl rfl ?_
    refine swV (fun _ => rfl) ?_
    exact fin _ false (by simp) rfl rfl rfl
  | true =>
    refine swV (fun _ => rfl) ?_
    refine swV (fun _ => rfl) ?_
    refine sw_vg rfl (fun _ => rfl) trivial ?_
    refine sw_vg rfl (len_sl rfl hes) trivial ?_
    refine sw_vg rfl (fun _ => rfl) trivial ?_
    refine swV (fun _ => rfl) ?_
    refine fin _ (decide ((es.length : Int) > 0)) ?_ rfl rfl rfl
    have : es = [] ↔ n = 0 := by rw [← hve]; exact (val_eq_zero hte).symm
    cases es with
    | nil => simp [this.1 rfl]
    | cons e r => have : n ≠ 0 := fun h => by simp at this; exact this h
                  simp; omega
end Iso

/- Whole numbers with a sign: adding, multiplying. -/
namespace Iso
open Go Go.Proofs
theorem IsMag.sl {n : Nat} {v : V} (h : IsMag n v) : Imm v := let ⟨_, h1, _⟩ := h; h1.imm
theorem IsNum.of_make {z : Int} {b : Bool} {n : Nat} {w : V} (h : IsNum (if b then -(n : Int) else n) w) (e : (if b then -(n : Int) else n) = z) : IsNum z w := e ▸ h
theorem num_imms {b : Bool} {m : V} (h : Imm m) : Imms [.lit (.bool b), m] := Imms.cons (imm_bool b) (Imms.cons h Imms.nil)
theorem le_sq_pow {n k : Nat} (h : n = 2 ^ k) : n ≤ n * n := by
  subst h
  exact Nat.le_mul_of_pos_left _ (Nat.two_pow_pos k)
theorem BIG_le : BIG ≤ BIG * BIG := le_sq_pow BIG.eq_1
/-- What the specifications of functions promise, the heap being as it was. -/
theorem fn_ex {f : Nat} {args : List V} {H : AH} {R : V → Prop} (h : ∃ w H', FN Tryz.prog f args H w H' ∧ (R w ∧ H' = H)) : ∃ w, R w ∧ FN Tryz.prog f args H w H := by
  obtain ⟨w, H', h1, h2, rfl⟩ := h; exact ⟨w, h2, h1⟩
/-- 'num.Neg'. -/
theorem fn_numNeg (z : Int) (v : V) (hv : IsNum z v) (hz : z.natAbs < BIG * BIG) (H : AH) : ∃ w, IsNum (-z) w ∧ FN Tryz.prog 61 [v] H w H := by
  refine fn_ex ?_
  obtain ⟨m, rfl, hm⟩ := hv
  obtain ⟨w, hw, fw⟩ := fn_numMake (!decide (z < 0)) z.natAbs m hm hz H
  have hw := hw.of_make (z := -z) (by by_cases h : z < 0 <;> simp [h] <;> omega)
  obtain ⟨m', rfl, hm'⟩ := hw
  refine fn_of cf61 (by simp) ?_
  show AWp _ _ _ ac61 _ _
  unfold ac61
  refine awp_seq_sw ?_
  refine sw_l (box_agg rfl (num_imms hm.sl) rfl) trivial ?_
  repeat first | refine swV (fun _ => rfl) ?_ | refine sw_l (fun _ => rfl) trivial ?_ | refine sw_ln (fun _ => rfl) ⟨rfl, leB rfl⟩ ?_ | refine sw_vg rfl (fun _ => rfl) trivial ?_ | refine sw_sk rfl rfl ?_
  refine SW.nil (awp_seq_sw ?_)
  repeat first | refine swV (fun _ => rfl) ?_ | refine sw_l (fun _ => rfl) trivial ?_ | refine sw_ln (fun _ => rfl) ⟨rfl, leB rfl⟩ ?_ | refine sw_vg rfl (fun _ => rfl) trivial ?_ | refine sw_sk rfl rfl ?_
  refine sw_call rfl fw ?_
  refine sw_ln (st_agg [_, _] rfl rfl (num_imms hm'.sl) rfl rfl) ⟨rfl, leB rfl⟩ ?_
  refine SW.nil (awp_ret ?_)
  exact ⟨.inr rfl, _, rfl, ⟨m', rfl, hm'⟩, rfl⟩
/-- 'num.Of'. -/
theorem fn_numOf (z : Int) (h1 : -9223372036854775808 ≤ z) (h2 : z < 9223372036854775808) (H : AH) : ∃ w, IsNum z w ∧ FN Tryz.prog 45 [.lit (.int .i64 z)] H w H := by
  refine fn_ex ?_
  obtain ⟨w, hw, fw⟩ := fn_magOf z.natAbs (by simp only [B64]; omega) H
  refine fn_of cf45 (by simp) ?_
  show AWp _ _ _ ac45 _ _
  unfold ac45
  refine awp_seq_sw ?_
  repeat first | refine swV (fun _ => rfl) ?_ | refine sw_l (fun _ => rfl) trivial ?_ | refine sw_ln (fun _ => rfl) ⟨rfl, leB rfl⟩ ?_ | refine sw_vg rfl (fun _ => rfl) trivial ?_ | refine sw_sk rfl rfl ?_
  refine SW.nil (awp_seq_seq_sw ?_)
  repeat first | refine swV (fun _ => rfl) ?_ | refine sw_l (fun _ => rfl) trivial ?_ | refine sw_ln (fun _ => rfl) ⟨rfl, leB rfl⟩ ?_ | refine sw_vg rfl (fun _ => rfl) trivial ?_ | refine sw_sk rfl rfl ?_
  refine SW.nil ?_
  refine awp_cond rfl (fun h => ?_) fun h => ?_
  · have hz : z < 0 := by simpa using h
    refine awp_seq_sw ?_
    repeat first | refine swV (fun _ => rfl) ?_ | refine sw_l (fun _ => rfl) trivial ?_ | refine sw_ln (fun _ => rfl) ⟨rfl, leB rfl⟩ ?_ | refine sw_vg rfl (fun _ => rfl) trivial ?_ | refine sw_sk rfl rfl ?_
    rw [show IntKind.u64.wrap (0 - IntKind.u64.wrap z) = (z.natAbs : Int) from by rw [IntKind.wrap_u64, IntKind.wrap_u64]; omega]
    refine sw_call rfl fw ?_
    refine sw_v (bld_of [.lit (.bool true), w] (fill_cons (u := .lit (.bool true)) (l := [.lit (.bool true)]) rfl (fun _ => rfl) ⟨rfl, leB rfl⟩ rfl (fill_cons (u := w) rfl hw.sl.cell ⟨rfl, leB rfl⟩ rfl fill_nil))) trivial ?_
    refine sw_ln (st_agg [_, _] rfl rfl (num_imms hw.sl) rfl rfl) ⟨rfl, leB rfl⟩ ?_
    refine SW.nil (awp_ret ?_)
    exact ⟨.inr rfl, _, rfl, ⟨w, by rw [show decide (z < 0) = true by simpa using hz]; rfl, hw⟩, rfl⟩
  · have hz : ¬ z < 0 := by simpa using h
    refine awp_skip ?_
    refine awp_seq_sw ?_
    repeat first | refine swV (fun _ => rfl) ?_ | refine sw_l (fun _ => rfl) trivial ?_ | refine sw_ln (fun _ => rfl) ⟨rfl, leB rfl⟩ ?_ | refine sw_vg rfl (fun _ => rfl) trivial ?_ | refine sw_sk rfl rfl ?_
    rw [show IntKind.u64.wrap z = (z.natAbs : Int) from by rw [IntKind.wrap_u64]; omega]
    refine sw_call rfl fw ?_
    refine sw_v (bld_of [.lit (.bool false), w] (fill_cons (u := .lit (.bool false)) (l := [.lit (.bool false)]) rfl (fun _ => rfl) ⟨rfl, leB rfl⟩ rfl (fill_cons (u := w) rfl hw.sl.cell ⟨rfl, leB rfl⟩ rfl fill_nil))) trivial ?_
    refine sw_ln (st_agg [_, _] rfl rfl (num_imms hw.sl) rfl rfl) ⟨rfl, leB rfl⟩ ?_
    refine SW.nil (awp_ret ?_)
    exact ⟨.inr rfl, _, rfl, ⟨w, by rw [show decide (z < 0) = false by simpa using hz]; rfl, hw⟩, rfl⟩
theorem sign_mul (x y : Int) : (if (decide (x < 0) != decide (y < 0)) then -((x.natAbs * y.natAbs : Nat) : Int) else ((x.natAbs * y.natAbs : Nat) : Int)) = x * y := by
  rw [← Int.natAbs_mul]
  have h1 : 0 ≤ x → 0 ≤ y → 0 ≤ x * y := Int.mul_nonneg
  have h2 : x ≤ 0 → y ≤ 0 → 0 ≤ x * y := Int.mul_nonneg_of_nonpos_of_nonpos
  have h3 : 0 ≤ x → y ≤ 0 → x * y ≤ 0 := Int.mul_nonpos_of_nonneg_of_nonpos
  have h4 : x ≤ 0 → 0 ≤ y → x * y ≤ 0 := Int.mul_nonpos_of_nonpos_of_nonneg
  by_cases hx : x < 0 <;> by_cases hy : y < 0 <;> simp [hx, hy] <;> omega
/-- 'num.Mul'. -/
theorem fn_numMul (x y : Int) (u v : V) (hu : IsNum x u) (hv : IsNum y v) (bx : x.natAbs < BIG) (by_ : y.natAbs < BIG) (H : AH) : ∃ w, IsNum (x * y) w ∧ FN Tryz.prog 56 [u, v] H w H := by
  refine fn_ex ?_
  obtain ⟨m, rfl, hm⟩ := hu
  obtain ⟨k, rfl, hk⟩ := hv
  obtain ⟨ds, ms, md, mt, mv⟩ := id hm
  obtain ⟨es, ks, kd, kt, kv⟩ := id hk
  obtain ⟨p, hp, fp⟩ := fn_mul ds es m k ms ks md kd (short mt mv (Nat.lt_of_lt_of_le bx BIG_le)) (short kt kv (Nat.lt_of_lt_of_le by_ BIG_le)) H
  rw [mv, kv] at hp
  obtain ⟨w, hw, fw⟩ := fn_numMake (decide (x < 0) != decide (y < 0)) (x.natAbs * y.natAbs) p hp (Nat.mul_lt_mul'' bx by_) H
  have hw := hw.of_make (sign_mul x y)
  obtain ⟨m', rfl, hm'⟩ := hw
  refine fn_of cf56 (by simp) ?_
  show AWp _ _ _ ac56 _ _
  unfold ac56
  refine awp_seq_sw ?_
  refine sw_l (box_agg rfl (num_imms hm.sl) rfl) trivial ?_
  refine sw_l (box_agg rfl (num_imms hk.sl) rfl) trivial ?_
  repeat first | refine swV (fun _ => rfl) ?_ | refine sw_l (fun _ => rfl) trivial ?_ | refine sw_ln (fun _ => rfl) ⟨rfl, leB rfl⟩ ?_ | refine sw_vg rfl (fun _ => rfl) trivial ?_ | refine sw_sk rfl rfl ?_
  refine SW.nil (awp_seq_rw hmix ?_)
  repeat first | refine rw_v' (fun _ => rfl) trivial ?_ | refine rw_l' (fun _ => rfl) trivial ?_ | refine rw_ln' (fun _ => rfl) ⟨rfl, leB rfl⟩ ?_ | refine rw_vg' rfl (fun _ => rfl) trivial ?_ | refine rw_sk' rfl rfl ?_
  refine rw_call' rfl fp ?_
  refine rw_call' rfl fw ?_
  refine rw_ln' (st_agg [_, _] rfl rfl (num_imms hm'.sl) rfl rfl) ⟨rfl, leB rfl⟩ ?_
  refine RW.nil ⟨rfl, awp_ret ?_⟩
  exact ⟨.inr rfl, _, rfl, ⟨m', rfl, hm'⟩, rfl⟩
/-- 'num.Add'. -/
theorem fn_numAdd (x y : Int) (u v : V) (hu : IsNum x u) (hv : IsNum y v) (bx : x.natAbs < BIG * BIG) (by_ : y.natAbs < BIG * BIG) (bs : x.natAbs + y.natAbs < BIG * BIG) (H : AH) : ∃ w, IsNum (x + y) w ∧ FN Tryz.prog 64 [u, v] H w H := by
  refine fn_ex ?_
  obtain ⟨m, rfl, hm⟩ := hu
  obtain ⟨k, rfl, hk⟩ := hv
  obtain ⟨ds, ms, md, mt, mv⟩ := id hm
  obtain ⟨es, ks, kd, kt, kv⟩ := id hk
  have lm := short mt mv bx
  have lk := short kt kv by_
  refine fn_of cf64 (by simp) ?_
  show AWp _ _ _ ac64 _ _
  unfold ac64
  refine awp_seq_sw ?_
  refine sw_l (box_agg rfl (num_imms hm.sl) rfl) trivial ?_
  refine sw_l (box_agg rfl (num_imms hk.sl) rfl) trivial ?_
  repeat first | refine swV (fun _ => rfl) ?_ | refine sw_l (fun _ => rfl) trivial ?_ | refine sw_ln (fun _ => rfl) ⟨rfl, leB rfl⟩ ?_ | refine sw_vg rfl (fun _ => rfl) trivial ?_ | refine sw_sk rfl rfl ?_
  refine SW.nil (awp_seq_seq_sw ?_)
  repeat first | refine swV (fun _ => rfl) ?_ | refine sw_l (fun _ => rfl) trivial ?_ | refine sw_ln (fun _ => rfl) ⟨rfl, leB rfl⟩ ?_ | refine sw_vg rfl (fun _ => rfl) trivial ?_ | refine sw_sk rfl rfl ?_
  refine SW.nil ?_
  refine awp_cond rfl (fun h => ?_) fun h => ?_
  · have hs : decide (x < 0) = decide (y < 0) := by simpa using h
    obtain ⟨p, hp, fp⟩ := fn_add ds es m k ms ks md kd (by omega) (by omega) H
    rw [mv, kv] at hp
    obtain ⟨w, hw, fw⟩ := fn_numMake (decide (x < 0)) (x.natAbs + y.natAbs) p hp bs H
    have hw := hw.of_make (z := x + y) (by by_cases h1 : x < 0 <;> by_cases h2 : y < 0 <;> simp [h1, h2] at hs ⊢ <;> omega)
    obtain ⟨m', rfl, hm'⟩ := hw
    refine awp_seq_rw hmix ?_
    repeat first | refine rw_v' (fun _ => rfl) trivial ?_ | refine rw_l' (fun _ => rfl) trivial ?_ | refine rw_ln' (fun _ => rfl) ⟨rfl, leB rfl⟩ ?_ | refine rw_vg' rfl (fun _ => rfl) trivial ?_ | refine rw_sk' rfl rfl ?_
    refine rw_call' rfl fp ?_
    refine rw_call' rfl fw ?_
    refine rw_ln' (st_agg [_, _] rfl rfl (num_imms hm'.sl) rfl rfl) ⟨rfl, leB rfl⟩ ?_
    refine RW.nil ⟨rfl, awp_ret ?_⟩
    exact ⟨.inr rfl, _, rfl, ⟨m', rfl, hm'⟩, rfl⟩
  · have hs : decide (x < 0) ≠ decide (y < 0) := by simpa using h
    have fc := fn_cmp ds es m k ms ks md kd (by omega) (by omega) H
    rw [mv, kv] at fc
    refine awp_skip ?_
    refine awp_seq_seq_sw ?_
    repeat first | refine swV (fun _ => rfl) ?_ | refine sw_l (fun _ => rfl) trivial ?_ | refine sw_ln (fun _ => rfl) ⟨rfl, leB rfl⟩ ?_ | refine sw_vg rfl (fun _ => rfl) trivial ?_ | refine sw_sk rfl rfl ?_
    refine sw_call rfl fc ?_
    repeat first | refine swV (fun _ => rfl) ?_ | refine sw_l (fun _ => rfl) trivial ?_ | refine sw_ln (fun _ => rfl) ⟨rfl, leB rfl⟩ ?_ | refine sw_vg rfl (fun _ => rfl) trivial ?_ | refine sw_sk rfl rfl ?_
    refine SW.nil ?_
    refine awp_cond rfl (fun h => ?_) fun h => ?_
    · have hc : y.natAbs ≤ x.natAbs := by
        rcases Nat.lt_or_ge x.natAbs y.natAbs with hh | hh
        · rw [cmpI_lt hh] at h; simp at h
        · exact hh
      obtain ⟨p, hp, fp⟩ := fn_sub ds es m k ms ks md kd (by omega) (by omega) H
      rw [mv, kv] at hp
      obtain ⟨w, hw, fw⟩ := fn_numMake (decide (x < 0)) (x.natAbs - y.natAbs) p hp (by omega) H
      have hw := hw.of_make (z := x + y) (by by_cases h1 : x < 0 <;> by_cases h2 : y < 0 <;> simp [h1, h2] at hs ⊢ <;> omega)
      obtain ⟨m', rfl, hm'⟩ := hw
      refine awp_seq_rw hmix ?_
      repeat first | refine rw_v' (fun _ => rfl) trivial ?_ | refine rw_l' (fun _ => rfl) trivial ?_ | refine rw_ln' (fun _ => rfl) ⟨rfl, leB rfl⟩ ?_ | refine rw_vg' rfl (fun _ => rfl) trivial ?_ | refine rw_sk' rfl rfl ?_
      refine rw_call' rfl fp ?_
      refine rw_call' rfl fw ?_
      refine rw_ln' (st_agg [_, _] rfl rfl (num_imms hm'.sl) rfl rfl) ⟨rfl, leB rfl⟩ ?_
      refine RW.nil ⟨rfl, awp_ret ?_⟩
      exact ⟨.inr rfl, _, rfl, ⟨m', rfl, hm'⟩, rfl⟩
    · have hc : x.natAbs < y.natAbs := by
        rcases Nat.lt_or_ge x.natAbs y.natAbs with hh | hh
        · exact hh
        · exfalso
          rcases Nat.lt_or_ge y.natAbs x.natAbs with h3 | h3
          · rw [cmpI_gt h3] at h; simp at h
          · rw [show x.natAbs = y.natAbs by omega, cmpI_eq] at h; simp at h
      obtain ⟨p, hp, fp⟩ := fn_sub es ds k m ks ms kd md (by omega) (by omega) H
      rw [mv, kv] at hp
      obtain ⟨w, hw, fw⟩ := fn_numMake (decide (y < 0)) (y.natAbs - x.natAbs) p hp (by omega) H
      have hw := hw.of_make (z := x + y) (by by_cases h1 : x < 0 <;> by_cases h2 : y < 0 <;> simp [h1, h2] at hs ⊢ <;> omega)
      obtain ⟨m', rfl, hm'⟩ := hw
      refine awp_skip ?_
      refine awp_seq_rw hmix ?_
      repeat first | refine rw_v' (fun _ => rfl) trivial ?_ | refine rw_l' (fun _ => rfl) trivial ?_ | refine rw_ln' (fun _ => rfl) ⟨rfl, leB rfl⟩ ?_ | refine rw_vg' rfl (fun _ => rfl) trivial ?_ | refine rw_sk' rfl rfl ?_
      refine rw_call' rfl fp ?_
      refine rw_call' rfl fw ?_
      refine rw_ln' (st_agg [_, _] rfl rfl (num_imms hm'.sl) rfl rfl) ⟨rfl, leB rfl⟩ ?_
      refine RW.nil ⟨rfl, awp_ret ?_⟩
      exact ⟨.inr rfl, _, rfl, ⟨m', rfl, hm'⟩, rfl⟩
end Iso

/- The compiled code of functions. -/
namespace Iso
open Go Go.Proofs
def ac146 : AC := (.seq 
  (.reg false [] [⟨(some 2), none, (.mv (.k (.lit (.int .i64 0))))⟩]) (.seq (.seq 
  (.reg false [] [⟨(some 3), none, (.mv (.t 0))⟩,
    ⟨(some 4), none, (.bin .geq (.t 3) (.k (.lit (.int .u64 4294967296))))⟩]) (.cond (.t 4) (.seq 
  (.reg false [] [⟨(some 5), none, (.mv (.t 0))⟩,
    ⟨(some 6), none, (.bin .shr (.t 5) (.k (.lit (.int .u64 32))))⟩,
    ⟨(some 0), none, (.mv (.t 6))⟩]) 
  (.reg false [] [⟨(some 2), none, (.mv (.k (.lit (.int .i64 32))))⟩])) .skip)) (.seq (.seq 
  (.reg false [] [⟨(some 7), none, (.mv (.t 0))⟩,
    ⟨(some 8), none, (.bin .geq (.t 7) (.k (.lit (.int .u64 65536))))⟩]) (.cond (.t 8) (.seq 
  (.reg false [] [⟨(some 9), none, (.mv (.t 0))⟩,
    ⟨(some 10), none, (.bin .shr (.t 9) (.k (.lit (.int .u64 16))))⟩,
    ⟨(some 0), none, (.mv (.t 10))⟩]) 
  (.reg false [] [⟨(some 11), none, (.mv (.t 2))⟩,
    ⟨(some 12), none, (.bin .add (.t 11) (.k (.lit (.int .i64 16))))⟩,
    ⟨(some 2), none, (.mv (.t 12))⟩])) .skip)) (.seq (.seq 
  (.reg false [] [⟨(some 13), none, (.mv (.t 0))⟩,
    ⟨(some 14), none, (.bin .geq (.t 13) (.k (.lit (.int .u64 256))))⟩]) (.cond (.t 14) (.seq 
  (.reg false [] [⟨(some 15), none, (.mv (.t 0))⟩,
    ⟨(some 16), none, (.bin .shr (.t 15) (.k (.lit (.int .u64 8))))⟩,
    ⟨(some 0), none, (.mv (.t 16))⟩]) 
  (.reg false [] [⟨(some 17), none, (.mv (.t 2))⟩,
    ⟨(some 18), none, (.bin .add (.t 17) (.k (.lit (.int .i64 8))))⟩,
    ⟨(some 2), none, (.mv (.t 18))⟩])) .skip)) (.seq 
  (.reg false [] [⟨(some 19), none, (.mv (.t 2))⟩,
    ⟨(some 20), none, (.mv (.t 0))⟩,
    ⟨(some 21), none, (.cv .u8 (.t 20))⟩,
    ⟨(some 22), none, (.ixs [0, 1, 2, 2, 3, 3, 3, 3, 4, 4, 4, 4, 4, 4, 4, 4, 5, 5, 5, 5, 5, 5, 5, 5, 5, 5, 5, 5, 5, 5, 5, 5, 6, 6, 6, 6, 6, 6, 6, 6, 6, 6, 6, 6, 6, 6, 6, 6, 6, 6, 6, 6, 6, 6, 6, 6, 6, 6, 6, 6, 6, 6, 6, 6, 7, 7, 7, 7, 7, 7, 7, 7, 7, 7, 7, 7, 7, 7, 7, 7, 7, 7, 7, 7, 7, 7, 7, 7, 7, 7, 7, 7, 7, 7, 7, 7, 7, 7, 7, 7, 7, 7, 7, 7, 7, 7, 7, 7, 7, 7, 7, 7, 7, 7, 7, 7, 7, 7, 7, 7, 7, 7, 7, 7, 7, 7, 7, 7, 8, 8, 8, 8, 8, 8, 8, 8, 8, 8, 8, 8, 8, 8, 8, 8, 8, 8, 8, 8, 8, 8, 8, 8, 8, 8, 8, 8, 8, 8, 8, 8, 8, 8, 8, 8, 8, 8, 8, 8, 8, 8, 8, 8, 8, 8, 8, 8, 8, 8, 8, 8, 8, 8, 8, 8, 8, 8, 8, 8, 8, 8, 8, 8, 8, 8, 8, 8, 8, 8, 8, 8, 8, 8, 8, 8, 8, 8, 8, 8, 8, 8, 8, 8, 8, 8, 8, 8, 8, 8, 8, 8, 8, 8, 8, 8, 8, 8, 8, 8, 8, 8, 8, 8, 8, 8, 8, 8, 8, 8, 8, 8, 8, 8, 8, 8, 8, 8, 8, 8, 8, 8, 8, 8, 8, 8, 8, 8] (.t 21))⟩,
    ⟨(some 23), none, (.cv .i64 (.t 22))⟩,
    ⟨(some 24), none, (.bin .add (.t 19) (.t 23))⟩,
    ⟨(some 2), none, (.mv (.t 24))⟩]) .ret)))))
theorem cf146 : compF Tryz.prog 146 = some ⟨25, ac146, [(.tmp 2)]⟩ := by kernel_rfl
def ac99 : AC := (.seq 
  (.reg false [] [⟨(some 2), none, (.mv (.k (.lit (.bool false))))⟩]) (.seq 
  (.reg false [] [⟨(some 3), none, (.mv (.t 0))⟩,
    ⟨(some 4), none, (.len (.t 3))⟩,
    ⟨(some 5), none, (.bin .eql (.t 4) (.k (.lit (.int .i64 1))))⟩,
    ⟨(some 6), none, (.mv (.t 5))⟩,
    ⟨(some 7), (some (6, true)), (.mv (.t 0))⟩,
    ⟨(some 8), (some (6, true)), (.iad 1 (.t 7) (.k (.lit (.int .i64 0))))⟩,
    ⟨(some 9), (some (6, true)), (.ld false 1 (.t 8))⟩,
    ⟨(some 10), (some (6, true)), (.bin .eql (.t 9) (.k (.lit (.int .u64 1))))⟩,
    ⟨(some 11), none, (.pick (.t 6) (.t 10) (.k (.lit (.bool false))))⟩,
    ⟨(some 2), none, (.mv (.t 11))⟩]) .ret))
theorem cf99 : compF Tryz.prog 99 = some ⟨12, ac99, [(.tmp 2)]⟩ := by kernel_rfl
def ac81 : AC := (.seq 
  (.reg false [] [⟨(some 0), none, (.mv (.k (.lit (.slice none 0 0))))⟩]) (.seq 
  (.reg false [] [⟨(some 1), none, (.bsl 1 1 [(.lit (.int .u64 0))] [(0, (1, (.k (.lit (.int .u64 1)))))])⟩,
    ⟨(some 0), none, (.mv (.t 1))⟩]) .ret))
theorem cf81 : compF Tryz.prog 81 = some ⟨2, ac81, [(.tmp 0)]⟩ := by kernel_rfl
def ac16 : AC := (.seq 
  (.reg false [] [⟨(some 2), none, (.new [(.lit (.bool false)), (.lit (.slice none 0 0)), (.lit (.slice none 0 0))])⟩]) (.seq 
  (.reg false [] [⟨(some 3), none, (.mv (.t 0))⟩,
    ⟨(some 4), none, (.call 45 [(.t 3)])⟩,
    ⟨(some 5), none, (.call 44 [(.t 4)])⟩,
    ⟨none, none, (.st 3 (.t 2) (.t 5))⟩]) .ret))
theorem cf16 : compF Tryz.prog 16 = some ⟨6, ac16, [(.cell 2 true 3)]⟩ := by kernel_rfl
def ac22 : AC := (.seq 
  (.reg false [] [⟨(some 2), none, (.box (.t 0))⟩,
    ⟨(some 3), none, (.box (.t 1))⟩,
    ⟨(some 4), none, (.new [(.lit (.bool false)), (.lit (.slice none 0 0)), (.lit (.slice none 0 0))])⟩]) (.seq 
  (.reg true [[], [], [1], [0, 2, 2], [3, 3, 0, 1, 2, 3]] [⟨(some 5), none, (.ld true 3 (.t 2))⟩,
    ⟨(some 6), none, (.ld true 3 (.t 3))⟩,
    ⟨(some 7), none, (.call 23 [(.t 6)])⟩,
    ⟨(some 8), none, (.call 26 [(.t 5), (.t 7)])⟩,
    ⟨none, none, (.st 3 (.t 4) (.t 8))⟩]) .ret))
theorem cf22 : compF Tryz.prog 22 = some ⟨9, ac22, [(.cell 4 true 3)]⟩ := by kernel_rfl
def ac23 : AC := (.seq 
  (.reg false [] [⟨(some 1), none, (.box (.t 0))⟩,
    ⟨(some 2), none, (.new [(.lit (.bool false)), (.lit (.slice none 0 0)), (.lit (.slice none 0 0))])⟩]) (.seq 
  (.reg true [[], [0], [1], [], [3, 2], [2, 4, 4], [5, 5, 0, 1, 2, 3, 4, 5]] [⟨(some 3), none, (.fad 0 (.t 1))⟩,
    ⟨(some 4), none, (.ld true 2 (.t 3))⟩,
    ⟨(some 5), none, (.call 61 [(.t 4)])⟩,
    ⟨(some 6), none, (.ld true 3 (.t 1))⟩,
    ⟨(some 7), none, (.call 62 [(.t 6)])⟩,
    ⟨(some 8), none, (.call 60 [(.t 5), (.t 7)])⟩,
    ⟨none, none, (.st 3 (.t 2) (.t 8))⟩]) .ret))
theorem cf23 : compF Tryz.prog 23 = some ⟨9, ac23, [(.cell 2 true 3)]⟩ := by kernel_rfl
def ac24 : AC := (.seq 
  (.reg false [] [⟨(some 2), none, (.box (.t 0))⟩,
    ⟨(some 3), none, (.box (.t 1))⟩,
    ⟨(some 4), none, (.new [(.lit (.bool false)), (.lit (.slice none 0 0)), (.lit (.slice none 0 0))])⟩]) (.seq 
  (.reg true [[], [0], [], [2], [1, 3], [], [5, 4], [], [7, 6], [6, 8, 8], [4, 9, 9], [10, 10, 0, 1, 2, 3, 4, 5, 6, 7, 8, 9, 10]] [⟨(some 5), none, (.fad 0 (.t 2))⟩,
    ⟨(some 6), none, (.ld true 2 (.t 5))⟩,
    ⟨(some 7), none, (.fad 0 (.t 3))⟩,
    ⟨(some 8), none, (.ld true 2 (.t 7))⟩,
    ⟨(some 9), none, (.call 56 [(.t 6), (.t 8)])⟩,
    ⟨(some 10), none, (.ld true 3 (.t 2))⟩,
    ⟨(some 11), none, (.call 62 [(.t 10)])⟩,
    ⟨(some 12), none, (.ld true 3 (.t 3))⟩,
    ⟨(some 13), none, (.call 62 [(.t 12)])⟩,
    ⟨(some 14), none, (.call 63 [(.t 11), (.t 13)])⟩,
    ⟨(some 15), none, (.call 60 [(.t 9), (.t 14)])⟩,
    ⟨none, none, (.st 3 (.t 4) (.t 15))⟩]) .ret))
theorem cf24 : compF Tryz.prog 24 = some ⟨16, ac24, [(.cell 4 true 3)]⟩ := by kernel_rfl
def ac26 : AC := (.seq 
  (.reg false [] [⟨(some 2), none, (.box (.t 0))⟩,
    ⟨(some 3), none, (.box (.t 1))⟩,
    ⟨(some 4), none, (.new [(.lit (.bool false)), (.lit (.slice none 0 0)), (.lit (.slice none 0 0))])⟩]) (.seq 
  (.reg true [[], [0], [], [2], [1, 3, 3], [], [5], [], [7, 4], [6, 8, 8], [4, 9, 9], [], [11, 10, 10, 0, 1, 2, 3, 4, 5, 6, 7, 8, 9, 10, 11]] [⟨(some 6), none, (.fad 0 (.t 2))⟩,
    ⟨(some 7), none, (.ld true 2 (.t 6))⟩,
    ⟨(some 8), none, (.ld true 3 (.t 3))⟩,
    ⟨(some 9), none, (.call 65 [(.t 8)])⟩,
    ⟨(some 10), none, (.call 56 [(.t 7), (.t 9)])⟩,
    ⟨(some 11), none, (.fad 0 (.t 3))⟩,
    ⟨(some 12), none, (.ld true 2 (.t 11))⟩,
    ⟨(some 13), none, (.ld true 3 (.t 2))⟩,
    ⟨(some 14), none, (.call 65 [(.t 13)])⟩,
    ⟨(some 15), none, (.call 56 [(.t 12), (.t 14)])⟩,
    ⟨(some 16), none, (.call 64 [(.t 10), (.t 15)])⟩,
    ⟨(some 5), none, (.new [(.lit (.bool false)), (.lit (.slice none 0 0))])⟩,
    ⟨none, none, (.st 2 (.t 5) (.t 16))⟩]) (.seq 
  (.reg true [[], [], [1], [], [3, 2], [2, 4, 4], [0, 5, 5], [6, 6, 0, 1, 2, 3, 4, 5, 6]] [⟨(some 17), none, (.ld true 2 (.t 5))⟩,
    ⟨(some 18), none, (.ld true 3 (.t 2))⟩,
    ⟨(some 19), none, (.call 62 [(.t 18)])⟩,
    ⟨(some 20), none, (.ld true 3 (.t 3))⟩,
    ⟨(some 21), none, (.call 62 [(.t 20)])⟩,
    ⟨(some 22), none, (.call 63 [(.t 19), (.t 21)])⟩,
    ⟨(some 23), none, (.call 60 [(.t 17), (.t 22)])⟩,
    ⟨none, none, (.st 3 (.t 4) (.t 23))⟩]) .ret)))
theorem cf26 : compF Tryz.prog 26 = some ⟨24, ac26, [(.cell 4 true 3)]⟩ := by kernel_rfl
def ac27 : AC := (.seq 
  (.reg false [] [⟨(some 1), none, (.box (.t 0))⟩,
    ⟨(some 2), none, (.mv (.k (.lit (.int .i64 0))))⟩]) (.seq 
  (.reg false [] [⟨(some 3), none, (.fad 0 (.t 1))⟩,
    ⟨(some 4), none, (.ld true 2 (.t 3))⟩,
    ⟨(some 5), none, (.call 66 [(.t 4)])⟩,
    ⟨(some 2), none, (.mv (.t 5))⟩]) .ret))
theorem cf27 : compF Tryz.prog 27 = some ⟨6, ac27, [(.tmp 2)]⟩ := by kernel_rfl
def ac33 : AC := (.seq 
  (.reg false [] [⟨(some 2), none, (.box (.t 0))⟩,
    ⟨(some 3), none, (.box (.t 1))⟩,
    ⟨(some 4), none, (.new [(.lit (.bool false)), (.lit (.slice none 0 0)), (.lit (.slice none 0 0))])⟩,
    ⟨(some 5), none, (.mv (.k (.lit (.bool false))))⟩]) (.seq 
  (.reg true [[], [0], [], [2], [1, 3, 3], [], [5], [], [7, 4], [6, 8, 8], [4, 9, 9], [10], [10], [11, 10, 0, 1, 2, 3, 4, 5, 6, 7, 8, 9, 10, 11, 12], [12, 13, 0, 1, 2, 3, 4, 5, 6, 7, 8, 9, 10, 11, 12, 13]] [⟨(some 6), none, (.fad 0 (.t 2))⟩,
    ⟨(some 7), none, (.ld true 2 (.t 6))⟩,
    ⟨(some 8), none, (.ld true 3 (.t 3))⟩,
    ⟨(some 9), none, (.call 65 [(.t 8)])⟩,
    ⟨(some 10), none, (.call 56 [(.t 7), (.t 9)])⟩,
    ⟨(some 11), none, (.fad 0 (.t 3))⟩,
    ⟨(some 12), none, (.ld true 2 (.t 11))⟩,
    ⟨(some 13), none, (.ld true 3 (.t 2))⟩,
    ⟨(some 14), none, (.call 65 [(.t 13)])⟩,
    ⟨(some 15), none, (.call 56 [(.t 12), (.t 14)])⟩,
    ⟨(some 16), none, (.call 58 [(.t 10), (.t 15)])⟩,
    ⟨(some 17), none, (.ext (.t 16) 0)⟩,
    ⟨(some 18), none, (.ext (.t 16) 1)⟩,
    ⟨none, none, (.st 3 (.t 4) (.t 17))⟩,
    ⟨(some 5), none, (.mv (.t 18))⟩]) .ret))
theorem cf33 : compF Tryz.prog 33 = some ⟨19, ac33, [(.cell 4 true 3), (.tmp 5)]⟩ := by kernel_rfl
def ac43 : AC := (.seq 
  (.reg false [] [⟨(some 2), none, (.box (.t 0))⟩,
    ⟨(some 3), none, (.box (.t 1))⟩,
    ⟨(some 4), none, (.mv (.k (.lit (.int .i64 0))))⟩]) (.seq 
  (.reg true [[], [0], [], [2, 1], [1, 3, 0, 1], [3, 4, 0, 1, 2, 3, 4]] [⟨(some 7), none, (.ld true 3 (.t 2))⟩,
    ⟨(some 8), none, (.call 27 [(.t 7)])⟩,
    ⟨(some 9), none, (.ld true 3 (.t 3))⟩,
    ⟨(some 10), none, (.call 27 [(.t 9)])⟩,
    ⟨(some 5), none, (.mv (.t 8))⟩,
    ⟨(some 6), none, (.mv (.t 10))⟩]) (.seq (.seq 
  (.reg false [] [⟨(some 11), none, (.mv (.t 5))⟩,
    ⟨(some 12), none, (.mv (.t 6))⟩,
    ⟨(some 13), none, (.bin .neq (.t 11) (.t 12))⟩]) (.cond (.t 13) (.seq 
  (.reg false [] [⟨(some 14), none, (.mv (.t 5))⟩,
    ⟨(some 15), none, (.call 45 [(.t 14)])⟩,
    ⟨(some 16), none, (.mv (.t 6))⟩,
    ⟨(some 17), none, (.call 45 [(.t 16)])⟩,
    ⟨(some 18), none, (.call 80 [(.t 15), (.t 17)])⟩,
    ⟨(some 4), none, (.mv (.t 18))⟩]) .ret) .skip)) (.seq 
  (.reg true [[], [0], [], [2], [1, 3, 3], [], [5], [], [7, 4], [6, 8, 8], [4, 9, 9], [10, 10, 0, 1, 2, 3, 4, 5, 6, 7, 8, 9, 10]] [⟨(some 19), none, (.fad 0 (.t 2))⟩,
    ⟨(some 20), none, (.ld true 2 (.t 19))⟩,
    ⟨(some 21), none, (.ld true 3 (.t 3))⟩,
    ⟨(some 22), none, (.call 65 [(.t 21)])⟩,
    ⟨(some 23), none, (.call 56 [(.t 20), (.t 22)])⟩,
    ⟨(some 24), none, (.fad 0 (.t 3))⟩,
    ⟨(some 25), none, (.ld true 2 (.t 24))⟩,
    ⟨(some 26), none, (.ld true 3 (.t 2))⟩,
    ⟨(some 27), none, (.call 65 [(.t 26)])⟩,
    ⟨(some 28), none, (.call 56 [(.t 25), (.t 27)])⟩,
    ⟨(some 29), none, (.call 80 [(.t 23), (.t 28)])⟩,
    ⟨(some 4), none, (.mv (.t 29))⟩]) .ret))))
theorem cf43 : compF Tryz.prog 43 = some ⟨30, ac43, [(.tmp 4)]⟩ := by kernel_rfl
def ac44 : AC := (.seq 
  (.reg false [] [⟨(some 1), none, (.box (.t 0))⟩,
    ⟨(some 2), none, (.new [(.lit (.bool false)), (.lit (.slice none 0 0)), (.lit (.slice none 0 0))])⟩]) (.seq 
  (.reg true [[], [], [0, 1, 1], [2, 2, 0, 1, 2]] [⟨(some 3), none, (.ld true 2 (.t 1))⟩,
    ⟨(some 4), none, (.call 81 [])⟩,
    ⟨(some 5), none, (.call 60 [(.t 3), (.t 4)])⟩,
    ⟨none, none, (.st 3 (.t 2) (.t 5))⟩]) .ret))
theorem cf44 : compF Tryz.prog 44 = some ⟨6, ac44, [(.cell 2 true 3)]⟩ := by kernel_rfl
def ac58 : AC := (.seq 
  (.reg false [] [⟨(some 2), none, (.box (.t 0))⟩,
    ⟨(some 3), none, (.box (.t 1))⟩,
    ⟨(some 4), none, (.new [(.lit (.bool false)), (.lit (.slice none 0 0)), (.lit (.slice none 0 0))])⟩,
    ⟨(some 5), none, (.mv (.k (.lit (.bool false))))⟩]) (.seq (.seq 
  (.reg false [] [⟨(some 6), none, (.ld true 2 (.t 3))⟩,
    ⟨(some 7), none, (.call 66 [(.t 6)])⟩,
    ⟨(some 8), none, (.bin .eql (.t 7) (.k (.lit (.int .i64 0))))⟩]) (.cond (.t 8) (.seq 
  (.reg false [] [⟨(some 9), none, (.call 16 [(.k (.lit (.int .i64 0)))])⟩,
    ⟨none, none, (.st 3 (.t 4) (.t 9))⟩,
    ⟨(some 5), none, (.mv (.k (.lit (.bool false))))⟩]) .ret) .skip)) (.seq 
  (.reg true [[], [0], [], [2], [1, 3], [], [5], [4, 6], [], [8], [7, 9, 7], [10, 10, 0, 1, 2, 3, 4, 5, 6, 7, 8, 9, 10], [11, 0, 1, 2, 3, 4, 5, 6, 7, 8, 9, 10, 11]] [⟨(some 10), none, (.fad 0 (.t 2))⟩,
    ⟨(some 11), none, (.ld false 1 (.t 10))⟩,
    ⟨(some 12), none, (.fad 0 (.t 3))⟩,
    ⟨(some 13), none, (.ld false 1 (.t 12))⟩,
    ⟨(some 14), none, (.eqb true (.t 11) (.t 13))⟩,
    ⟨(some 15), none, (.fad 1 (.t 2))⟩,
    ⟨(some 16), none, (.ld false 1 (.t 15))⟩,
    ⟨(some 17), none, (.call 96 [(.t 14), (.t 16)])⟩,
    ⟨(some 18), none, (.fad 1 (.t 3))⟩,
    ⟨(some 19), none, (.ld false 1 (.t 18))⟩,
    ⟨(some 20), none, (.call 60 [(.t 17), (.t 19)])⟩,
    ⟨none, none, (.st 3 (.t 4) (.t 20))⟩,
    ⟨(some 5), none, (.mv (.k (.lit (.bool true))))⟩]) .ret)))
theorem cf58 : compF Tryz.prog 58 = some ⟨21, ac58, [(.cell 4 true 3), (.tmp 5)]⟩ := by kernel_rfl
def ac60 : AC := (.seq 
  (.reg false [] [⟨(some 2), none, (.box (.t 0))⟩,
    ⟨(some 4), none, (.new [(.lit (.bool false)), (.lit (.slice none 0 0)), (.lit (.slice none 0 0))])⟩]) (.seq 
  (.reg false [] [⟨(some 10), none, (.call 81 [])⟩,
    ⟨(some 5), none, (.mv (.t 10))⟩]) (.seq (.seq 
  (.reg false [] [⟨(some 11), none, (.mv (.t 1))⟩,
    ⟨(some 12), none, (.call 99 [(.t 11)])⟩,
    ⟨(some 13), none, (.un .not (.t 12))⟩]) (.cond (.t 13) 
  (.reg false [] [⟨(some 14), none, (.fad 1 (.t 2))⟩,
    ⟨(some 15), none, (.ld false 1 (.t 14))⟩,
    ⟨(some 16), none, (.mv (.t 1))⟩,
    ⟨(some 17), none, (.call 100 [(.t 15), (.t 16)])⟩,
    ⟨(some 5), none, (.mv (.t 17))⟩]) .skip)) (.seq (.seq 
  (.reg false [] [⟨(some 18), none, (.mv (.t 5))⟩,
    ⟨(some 19), none, (.call 99 [(.t 18)])⟩]) (.cond (.t 19) (.seq 
  (.reg false [] [⟨(some 20), none, (.fad 0 (.t 2))⟩,
    ⟨(some 21), none, (.ld false 1 (.t 20))⟩,
    ⟨(some 22), none, (.fad 1 (.t 2))⟩,
    ⟨(some 23), none, (.ld false 1 (.t 22))⟩,
    ⟨(some 24), none, (.call 96 [(.t 21), (.t 23)])⟩,
    ⟨(some 25), none, (.mv (.t 1))⟩,
    ⟨(some 26), none, (.call 101 [(.t 25), (.k (.lit (.slice none 0 0)))])⟩,
    ⟨(some 27), none, (.bld [(.lit (.bool false)), (.lit (.slice none 0 0)), (.lit (.slice none 0 0))] [(0, (2, (.t 24))), (2, (1, (.t 26)))])⟩,
    ⟨none, none, (.st 3 (.t 4) (.t 27))⟩]) .ret) .skip)) (.seq 
  (.reg false [] [⟨(some 29), none, (.fad 1 (.t 2))⟩,
    ⟨(some 30), none, (.ld false 1 (.t 29))⟩,
    ⟨(some 31), none, (.mv (.t 5))⟩,
    ⟨(some 32), none, (.call 102 [(.t 30), (.t 31)])⟩,
    ⟨(some 28), none, (.mv (.t 32))⟩,
    ⟨(some 33), none, (.ext (.t 28) 0)⟩,
    ⟨(some 34), none, (.ext (.t 28) 1)⟩,
    ⟨(some 6), none, (.mv (.t 33))⟩,
    ⟨(some 7), none, (.mv (.t 34))⟩]) (.seq 
  (.reg false [] [⟨(some 36), none, (.mv (.t 1))⟩,
    ⟨(some 37), none, (.mv (.t 5))⟩,
    ⟨(some 38), none, (.call 102 [(.t 36), (.t 37)])⟩,
    ⟨(some 35), none, (.mv (.t 38))⟩,
    ⟨(some 39), none, (.ext (.t 35) 0)⟩,
    ⟨(some 40), none, (.ext (.t 35) 1)⟩,
    ⟨(some 8), none, (.mv (.t 39))⟩,
    ⟨(some 9), none, (.mv (.t 40))⟩]) (.seq 
  (.reg false [] [⟨(some 41), none, (.fad 0 (.t 2))⟩,
    ⟨(some 42), none, (.ld false 1 (.t 41))⟩,
    ⟨(some 43), none, (.mv (.t 6))⟩,
    ⟨(some 44), none, (.call 96 [(.t 42), (.t 43)])⟩,
    ⟨(some 45), none, (.mv (.t 8))⟩,
    ⟨(some 46), none, (.bld [(.lit (.bool false)), (.lit (.slice none 0 0)), (.lit (.slice none 0 0))] [(0, (2, (.t 44))), (2, (1, (.t 45)))])⟩,
    ⟨none, none, (.st 3 (.t 4) (.t 46))⟩]) .ret)))))))
theorem cf60 : compF Tryz.prog 60 = some ⟨47, ac60, [(.cell 4 true 3)]⟩ := by kernel_rfl
def ac62 : AC := (.seq 
  (.reg false [] [⟨(some 1), none, (.box (.t 0))⟩,
    ⟨(some 2), none, (.mv (.k (.lit (.slice none 0 0))))⟩]) (.seq (.seq 
  (.reg false [] [⟨(some 3), none, (.fad 2 (.t 1))⟩,
    ⟨(some 4), none, (.ld false 1 (.t 3))⟩,
    ⟨(some 5), none, (.call 103 [(.t 4)])⟩,
    ⟨(some 6), none, (.bin .eql (.t 5) (.k (.lit (.int .i64 0))))⟩]) (.cond (.t 6) (.seq 
  (.reg false [] [⟨(some 7), none, (.call 81 [])⟩,
    ⟨(some 2), none, (.mv (.t 7))⟩]) .ret) .skip)) (.seq 
  (.reg false [] [⟨(some 8), none, (.fad 2 (.t 1))⟩,
    ⟨(some 9), none, (.ld false 1 (.t 8))⟩,
    ⟨(some 2), none, (.mv (.t 9))⟩]) .ret)))
theorem cf62 : compF Tryz.prog 62 = some ⟨10, ac62, [(.tmp 2)]⟩ := by kernel_rfl
def ac65 : AC := (.seq 
  (.reg false [] [⟨(some 1), none, (.box (.t 0))⟩,
    ⟨(some 2), none, (.new [(.lit (.bool false)), (.lit (.slice none 0 0))])⟩]) (.seq 
  (.reg false [] [⟨(some 3), none, (.ld true 3 (.t 1))⟩,
    ⟨(some 4), none, (.call 62 [(.t 3)])⟩,
    ⟨(some 5), none, (.bld [(.lit (.bool false)), (.lit (.slice none 0 0))] [(1, (1, (.t 4)))])⟩,
    ⟨none, none, (.st 2 (.t 2) (.t 5))⟩]) .ret))
theorem cf65 : compF Tryz.prog 65 = some ⟨6, ac65, [(.cell 2 true 2)]⟩ := by kernel_rfl
def ac13 : AC := (.seq 
  (.reg false [] [⟨(some 2), none, (.box (.t 0))⟩,
    ⟨(some 3), none, (.box (.t 1))⟩,
    ⟨(some 4), none, (.mv (.k (.lit (.bool false))))⟩]) (.seq 
  (.reg false [] [⟨(some 5), none, (.ld true 3 (.t 2))⟩,
    ⟨(some 6), none, (.ld true 3 (.t 3))⟩,
    ⟨(some 7), none, (.call 43 [(.t 5), (.t 6)])⟩,
    ⟨(some 8), none, (.bin .eql (.t 7) (.k (.lit (.int .i64 0))))⟩,
    ⟨(some 4), none, (.mv (.t 8))⟩]) .ret))
theorem cf13 : compF Tryz.prog 13 = some ⟨9, ac13, [(.tmp 4)]⟩ := by kernel_rfl
end Iso

/- The length of a word, of a magnitude; signs; differences. -/
namespace Iso
open Go Go.Proofs
/-- m binary digits. -/
def IsLen (x m : Nat) : Prop := x < 2 ^ m ∧ (m = 0 ∨ 2 ^ (m - 1) ≤ x)
theorem IsLen.shift {x m : Nat} (k : Nat) (hx : 0 < x / 2 ^ k) (h : IsLen (x / 2 ^ k) m) : IsLen x (m + k) := by
  obtain ⟨h1, h2⟩ := h
  have hm : m ≠ 0 := fun h0 => by subst h0; rw [Nat.pow_zero] at h1; omega
  have h2 := h2.resolve_left hm
  refine ⟨?_, .inr ?_⟩
  · rw [Nat.pow_add]; exact (Nat.div_lt_iff_lt_mul (Nat.pow_pos (by decide))).1 h1
  · rw [show m + k - 1 = (m - 1) + k by omega, Nat.pow_add]
    exact (Nat.le_div_iff_mul_le (Nat.pow_pos (by decide))).1 h2
theorem IsLen.zero {x m : Nat} (h : IsLen x m) : m = 0 ↔ x = 0 := by
  obtain ⟨h1, h2⟩ := h
  constructor
  · rintro rfl; simpa using h1
  · rintro rfl
    rcases h2 with h2 | h2
    · exact h2
    · have : 0 < 2 ^ (m - 1) := Nat.pow_pos (by decide)
      omega
def lenTab : List Nat := (List.range 256).map fun x => if x = 0 then 0 else Nat.log2 x + 1
theorem lenTab_ok : ∀ x, x < 256 → ∃ m, lenTab[x]? = some m ∧ IsLen x m ∧ m ≤ 8 := by
  have : ∀ x, x < 256 → ((lenTab[x]?).getD 9 ≤ 8 ∧ x < 2 ^ (lenTab[x]?).getD 9 ∧ ((lenTab[x]?).getD 9 = 0 ∨ 2 ^ ((lenTab[x]?).getD 9 - 1) ≤ x)) := by decide +kernel
  intro x hx
  obtain ⟨h1, h2, h3⟩ := this x hx
  cases h : lenTab[x]? with
  | none => rw [h] at h1; simp at h1
  | some m => rw [h] at h1 h2 h3; exact ⟨m, rfl, ⟨h2, h3⟩, h1⟩
theorem ixs_of {ev : Opd → T} {Lg : Nat → Option (List V)} {d : Option Nat} {x : Opd} {bs : List Nat} {k : IntKind} {i m : Nat} (hx : ev x = .v (.lit (.int k (i : Int)))) (h : bs[i]? = some m) :
    ∀ H, aopE [] d (.ixs bs x) ev Lg H = some ⟨0 ≤ (i : Int), .v (.lit (.int .u8 (m : Int))), {}⟩ := fun H => by
  simp only [aopE, hx, Int.toNat_natCast, h, Option.map_some]
/-- 'bits.Len64'. -/
theorem fn_len64 (x : Nat) (hx : x < B64) (H : AH) : ∃ m, IsLen x m ∧ m ≤ 64 ∧ FN Tryz.prog 146 [.lit (.int .u64 (x : Int))] H (.lit (.int .i64 (m : Int))) H := by
  suffices h : ∃ v' H', FN Tryz.prog 146 [.lit (.int .u64 (x : Int))] H v' H' ∧ ((∃ m : Nat, v' = .lit (.int .i64 (m : Int)) ∧ IsLen x m ∧ m ≤ 64) ∧ H' = H) by
    obtain ⟨v', H', h1, ⟨m, rfl, h2, h3⟩, rfl⟩ := h; exact ⟨m, h2, h3, h1⟩
  refine fn_of cf146 (by simp) ?_
  show AWp _ _ _ ac146 _ _
  unfold ac146
  refine awp_seq_sw ?_
  repeat first | refine swV (fun _ => rfl) ?_ | refine sw_l (fun _ => rfl) trivial ?_ | refine sw_ln (fun _ => rfl) ⟨rfl, leB rfl⟩ ?_ | refine sw_vg rfl (fun _ => rfl) trivial ?_ | refine sw_sk rfl rfl ?_
  refine SW.nil (awp_seq_seq_sw ?_)
  repeat first | refine swV (fun _ => rfl) ?_ | refine sw_l (fun _ => rfl) trivial ?_ | refine sw_ln (fun _ => rfl) ⟨rfl, leB rfl⟩ ?_ | refine sw_vg rfl (fun _ => rfl) trivial ?_ | refine sw_sk rfl rfl ?_
  refine SW.nil ?_
  refine awp_join (γ := { p : Nat × Nat // p.1 < 2 ^ 32 ∧ p.2 ≤ 32 ∧ ∀ m, IsLen p.1 m → IsLen x (m + p.2) }) (fun p => ⟨[(0, .v (.lit (.int .u64 (p.1.1 : Int)))), (2, .v (.lit (.int .i64 (p.1.2 : Int))))], [], H⟩) ?_ ?_
  · refine awp_cond rfl (fun h => ?_) fun h => ?_
    · have hg : 4294967296 ≤ x := by simp at h; omega
      refine awp_seq_sw ?_
      refine swV (fun _ => rfl) ?_
      refine sw_v (u64_shr 32 rfl rfl (by decide)) (by decide) ?_
      repeat first | refine swV (fun _ => rfl) ?_ | refine sw_l (fun _ => rfl) trivial ?_ | refine sw_ln (fun _ => rfl) ⟨rfl, leB rfl⟩ ?_ | refine sw_vg rfl (fun _ => rfl) trivial ?_ | refine sw_sk rfl rfl ?_
      refine SW.nil (awp_sw ?_)
      repeat first | refine swV (fun _ => rfl) ?_ | refine sw_l (fun _ => rfl) trivial ?_ | refine sw_ln (fun _ => rfl) ⟨rfl, leB rfl⟩ ?_ | refine sw_vg rfl (fun _ => rfl) trivial ?_ | refine sw_sk rfl rfl ?_
      refine SW.nil ⟨⟨(x / 2 ^ 32, 32), ?_, by dsimp only; omega, fun m hm => hm.shift 32 ?_⟩, le_sub (sub_cons rfl (sub_cons rfl (sub_nil _)))⟩
      · simp only [B64] at hx; dsimp only; omega
      · omega
    · have hg : x < 4294967296 := by simp at h; omega
      refine awp_skip ⟨⟨(x, 0), hg, by dsimp only; omega, fun m hm => hm⟩, le_sub (sub_cons rfl (sub_cons rfl (sub_nil _)))⟩
  rintro ⟨⟨y, n⟩, hy, hn, hl⟩
  dsimp only at hy hn hl ⊢
  refine awp_seq_seq_sw ?_
  repeat first | refine swV (fun _ => rfl) ?_ | refine sw_l (fun _ => rfl) trivial ?_ | refine sw_ln (fun _ => rfl) ⟨rfl, leB rfl⟩ ?_ | refine sw_vg rfl (fun _ => rfl) trivial ?_ | refine sw_sk rfl rfl ?_
  refine SW.nil ?_
  refine awp_join (γ := { p : Nat × Nat // p.1 < 2 ^ 16 ∧ p.2 ≤ 48 ∧ ∀ m, IsLen p.1 m → IsLen x (m + p.2) }) (fun p => ⟨[(0, .v (.lit (.int .u64 (p.1.1 : Int)))), (2, .v (.lit (.int .i64 (p.1.2 : Int))))], [], H⟩) ?_ ?_
  · refine awp_cond rfl (fun h => ?_) fun h => ?_
    · have hg : 65536 ≤ y := by simp at h; omega
      refine awp_seq_sw ?_
      refine swV (fun _ => rfl) ?_
      refine sw_v (u64_shr 16 rfl rfl (by decide)) (by decide) ?_
      repeat first | refine swV (fun _ => rfl) ?_ | refine sw_l (fun _ => rfl) trivial ?_ | refine sw_ln (fun _ => rfl) ⟨rfl, leB rfl⟩ ?_ | refine sw_vg rfl (fun _ => rfl) trivial ?_ | refine sw_sk rfl rfl ?_
      refine SW.nil (awp_sw ?_)
      refine swV (fun _ => rfl) ?_
      refine sw_v (i64_add (q := 16) rfl rfl (by omega)) trivial ?_
      repeat first | refine swV (fun _ => rfl) ?_ | refine sw_l (fun _ => rfl) trivial ?_ | refine sw_ln (fun _ => rfl) ⟨rfl, leB rfl⟩ ?_ | refine sw_vg rfl (fun _ => rfl) trivial ?_ | refine sw_sk rfl rfl ?_
      refine SW.nil ⟨⟨(y / 2 ^ 16, n + 16), ?_, by dsimp only; omega, fun m hm => ?_⟩, le_sub (sub_cons rfl (sub_cons rfl (sub_nil _)))⟩
      · dsimp only; omega
      · have := hl _ (hm.shift 16 (by omega))
        rw [show m + (n + 16) = m + 16 + n by omega]; exact this
    · have hg : y < 65536 := by simp at h; omega
      refine awp_skip ⟨⟨(y, n), hg, by dsimp only; omega, hl⟩, le_sub (sub_cons rfl (sub_cons rfl (sub_nil _)))⟩
  clear hy hn hl y n
  rintro ⟨⟨y, n⟩, hy, hn, hl⟩
  dsimp only at hy hn hl ⊢
  refine awp_seq_seq_sw ?_
  repeat first | refine swV (fun _ => rfl) ?_ | refine sw_l (fun _ => rfl) trivial ?_ | refine sw_ln (fun _ => rfl) ⟨rfl, leB rfl⟩ ?_ | refine sw_vg rfl (fun _ => rfl) trivial ?_ | refine sw_sk rfl rfl ?_
  refine SW.nil ?_
  refine awp_join (γ := { p : Nat × Nat // p.1 < 2 ^ 8 ∧ p.2 ≤ 56 ∧ ∀ m, IsLen p.1 m → IsLen x (m + p.2) }) (fun p => ⟨[(0, .v (.lit (.int .u64 (p.1.1 : Int)))), (2, .v (.lit (.int .i64 (p.1.2 : Int))))], [], H⟩) ?_ ?_
  · refine awp_cond rfl (fun h => ?_) fun h => ?_
    · have hg : 256 ≤ y := by simp at h; omega
      refine awp_seq_sw ?_
      refine swV (fun _ => rfl) ?_
      refine sw_v (u64_shr 8 rfl rfl (by decide)) (by decide) ?_
      repeat first | refine swV (fun _ => rfl) ?_ | refine sw_l (fun _ => rfl) trivial ?_ | refine sw_ln (fun _ => rfl) ⟨rfl, leB rfl⟩ ?_ | refine sw_vg rfl (fun _ => rfl) trivial ?_ | refine sw_sk rfl rfl ?_
      refine SW.nil (awp_sw ?_)
      refine swV (fun _ => rfl) ?_
      refine sw_v (i64_add (q := 8) rfl rfl (by omega)) trivial ?_
      repeat first | refine swV (fun _ => rfl) ?_ | refine sw_l (fun _ => rfl) trivial ?_ | refine sw_ln (fun _ => rfl) ⟨rfl, leB rfl⟩ ?_ | refine sw_vg rfl (fun _ => rfl) trivial ?_ | refine sw_sk rfl rfl ?_
      refine SW.nil ⟨⟨(y / 2 ^ 8, n + 8), ?_, by dsimp only; omega, fun m hm => ?_⟩, le_sub (sub_cons rfl (sub_cons rfl (sub_nil _)))⟩
      · dsimp only; omega
      · have := hl _ (hm.shift 8 (by omega))
        rw [show m + (n + 8) = m + 8 + n by omega]; exact this
    · have hg : y < 256 := by simp at h; omega
      refine awp_skip ⟨⟨(y, n), hg, by dsimp only; omega, hl⟩, le_sub (sub_cons rfl (sub_cons rfl (sub_nil _)))⟩
  clear hy hn hl y n
  rintro ⟨⟨y, n⟩, hy, hn, hl⟩
  dsimp only at hy hn hl ⊢
  obtain ⟨m, hm, hlm, hm8⟩ := lenTab_ok y hy
  refine awp_seq_sw ?_
  refine swV (fun _ => rfl) ?_
  refine swV (fun _ => rfl) ?_
  refine swV (fun _ => rfl) ?_
  rw [show IntKind.u8.wrap (y : Int) = (y : Int) from by rw [IntKind.wrap_u8']; omega]
  refine sw_v (ixs_of (m := m) rfl (by refine Eq.trans (congrArg (fun l : List Nat => l[y]?) ?_) hm; decide +kernel)) (by omega) ?_
  refine swV (fun _ => rfl) ?_
  rw [wrap_i64 (x := (m : Int)) (by omega) (by omega)]
  refine sw_v (i64_add rfl rfl (by omega)) trivial ?_
  repeat first | refine swV (fun _ => rfl) ?_ | refine sw_l (fun _ => rfl) trivial ?_ | refine sw_ln (fun _ => rfl) ⟨rfl, leB rfl⟩ ?_ | refine sw_vg rfl (fun _ => rfl) trivial ?_ | refine sw_sk rfl rfl ?_
  refine SW.nil (awp_ret ?_)
  exact ⟨.inr rfl, _, rfl, ⟨n + m, rfl, by rw [Nat.add_comm]; exact hl m hlm, by omega⟩, rfl⟩
end Iso

/- The length of a magnitude; signs; differences; one. -/
namespace Iso
open Go Go.Proofs
theorem B64_pow (k : Nat) : B64 ^ k = 2 ^ (64 * k) := by rw [Nat.pow_mul]; rfl
theorem IsLen.snoc {fs : List Nat} {e m : Nat} (hd : Dig fs) (h : IsLen e m) (he : e ≠ 0) : IsLen (val (fs ++ [e])) (64 * fs.length + m) := by
  have hm : m ≠ 0 := fun h0 => he (h.zero.1 h0)
  obtain ⟨h1, h2⟩ := h
  have h2 := h2.resolve_left hm
  have h3 := val_lt hd
  rw [val_snoc]
  refine ⟨?_, .inr ?_⟩
  · have := Nat.mul_le_mul_left (B64 ^ fs.length) (show e + 1 ≤ 2 ^ m by omega)
    rw [Nat.pow_add, ← B64_pow]
    rw [Nat.mul_add] at this
    omega
  · have := Nat.mul_le_mul_left (B64 ^ fs.length) h2
    rw [show 64 * fs.length + m - 1 = 64 * fs.length + (m - 1) by omega, Nat.pow_add, ← B64_pow]
    omega
/-- 'mag.Len'. -/
theorem fn_magLenX (n : Nat) (v : V) (hv : IsMag n v) (hn : n < BIG * BIG) (H : AH) : ∃ m : Nat, IsLen n m ∧ FN Tryz.prog 103 [v] H (.lit (.int .i64 (m : Int))) H := by
  suffices h : ∃ v' H', FN Tryz.prog 103 [v] H v' H' ∧ ((∃ m : Nat, v' = .lit (.int .i64 (m : Int)) ∧ IsLen n m) ∧ H' = H) by
    obtain ⟨v', H', h1, ⟨m, rfl, h2⟩, rfl⟩ := h; exact ⟨m, h2, h1⟩
  obtain ⟨ds, hs, hd, ht, hval⟩ := hv
  have hl := short ht hval hn
  obtain ⟨w, hw, fw⟩ := fn_right ds v hs (by omega) H
  rw [ht] at hw
  refine fn_of cf103 (by simp) ?_
  show AWp _ _ _ ac103 _ _
  unfold ac103
  refine awp_seq_sw ?_
  repeat first | refine swV (fun _ => rfl) ?_ | refine sw_l (fun _ => rfl) trivial ?_ | refine sw_ln (fun _ => rfl) ⟨rfl, leB rfl⟩ ?_ | refine sw_vg rfl (fun _ => rfl) trivial ?_ | refine sw_sk rfl rfl ?_
  refine SW.nil (awp_seq_sw ?_)
  repeat first | refine swV (fun _ => rfl) ?_ | refine sw_l (fun _ => rfl) trivial ?_ | refine sw_ln (fun _ => rfl) ⟨rfl, leB rfl⟩ ?_ | refine sw_vg rfl (fun _ => rfl) trivial ?_ | refine sw_sk rfl rfl ?_
  refine sw_call rfl fw ?_
  repeat first | refine swV (fun _ => rfl) ?_ | refine sw_l (fun _ => rfl) trivial ?_ | refine sw_ln (fun _ => rfl) ⟨rfl, leB rfl⟩ ?_ | refine sw_vg rfl (fun _ => rfl) trivial ?_ | refine sw_sk rfl rfl ?_
  refine SW.nil (awp_seq_seq_sw ?_)
  refine swV (fun _ => rfl) ?_
  refine sw_v (len_sl rfl hw) trivial ?_
  repeat first | refine swV (fun _ => rfl) ?_ | refine sw_l (fun _ => rfl) trivial ?_ | refine sw_ln (fun _ => rfl) ⟨rfl, leB rfl⟩ ?_ | refine sw_vg rfl (fun _ => rfl) trivial ?_ | refine sw_sk rfl rfl ?_
  refine SW.nil ?_
  refine awp_cond rfl (fun h => ?_) fun h => ?_
  · have h0 : ds = [] := by
      have : ds.length = 0 := by simp at h; simp [h]
      exact List.eq_nil_of_length_eq_zero this
    refine awp_seq_sw ?_
    repeat first | refine swV (fun _ => rfl) ?_ | refine sw_l (fun _ => rfl) trivial ?_ | refine sw_ln (fun _ => rfl) ⟨rfl, leB rfl⟩ ?_ | refine sw_vg rfl (fun _ => rfl) trivial ?_ | refine sw_sk rfl rfl ?_
    refine SW.nil (awp_ret ?_)
    exact ⟨.inr rfl, _, rfl, ⟨0, rfl, by subst h0; simp [← hval, val, IsLen]⟩, rfl⟩
  · have h0 : ds ≠ [] := by rintro rfl; simp at h
    obtain ⟨fs, e, h1, he⟩ := (trim_cases ds).resolve_left (by rw [ht]; exact h0)
    rw [ht] at h1
    subst h1
    have hde := hd e (by simp)
    obtain ⟨m, hm, hm64, fm⟩ := fn_len64 e hde H
    have hm0 : m ≠ 0 := fun hh => he (hm.zero.1 hh)
    have hlen : (fs ++ [e]).length = fs.length + 1 := by simp
    obtain rfl := hw.vs h0
    have e1 : IntKind.i64.wrap (((fs ++ [e]).length : Int) - 1) = (fs.length : Int) := by rw [wrap_i64] <;> simp <;> omega
    refine awp_skip ?_
    refine awp_seq_sw ?_
    refine swV (fun _ => rfl) ?_
    refine swV (fun _ => rfl) ?_
    refine swV (fun _ => rfl) ?_
    rw [e1]
    refine swV (fun _ => rfl) ?_
    rw [show IntKind.i64.wrap (64 * (fs.length : Int)) = ((64 * fs.length : Nat) : Int) from by rw [wrap_i64] <;> omega]
    refine swV (fun _ => rfl) ?_
    refine swV (fun _ => rfl) ?_
    refine swV (fun _ => rfl) ?_
    refine swV (fun _ => rfl) ?_
    rw [e1]
    refine sw_v (iad_dig e [] rfl rfl (by simp)) ⟨by omega, by omega⟩ ?_
    refine swV (fun _ => rfl) ?_
    refine sw_call rfl fm ?_
    refine sw_v (i64_add rfl rfl (by omega)) trivial ?_
    repeat first | refine swV (fun _ => rfl) ?_ | refine sw_l (fun _ => rfl) trivial ?_ | refine sw_ln (fun _ => rfl) ⟨rfl, leB rfl⟩ ?_ | refine sw_vg rfl (fun _ => rfl) trivial ?_ | refine sw_sk rfl rfl ?_
    refine SW.nil (awp_ret ?_)
    exact ⟨.inr rfl, _, rfl, ⟨64 * fs.length + m, rfl, by
      rw [← hval]; exact hm.snoc hd.left he⟩, rfl⟩
theorem fn_magLen (n : Nat) (v : V) (hv : IsMag n v) (hn : n < BIG * BIG) (H : AH) : ∃ m : Nat, (m = 0 ↔ n = 0) ∧ FN Tryz.prog 103 [v] H (.lit (.int .i64 (m : Int))) H :=
  let ⟨m, h, f⟩ := fn_magLenX n v hv hn H; ⟨m, h.zero, f⟩
def sgn (z : Int) : Int := if z < 0 then -1 else if z = 0 then 0 else 1
/-- 'num.Sign'. -/
theorem fn_numSign (z : Int) (v : V) (hv : IsNum z v) (hz : z.natAbs < BIG * BIG) (H : AH) : FN Tryz.prog 66 [v] H (.lit (.int .i64 (sgn z))) H := by
  suffices h : ∃ v' H', FN Tryz.prog 66 [v] H v' H' ∧ (v' = .lit (.int .i64 (sgn z)) ∧ H' = H) by
    obtain ⟨v', H', h1, rfl, rfl⟩ := h; exact h1
  obtain ⟨m, rfl, hm⟩ := hv
  obtain ⟨k, hk, fk⟩ := fn_magLen _ m hm hz H
  refine fn_of cf66 (by simp) ?_
  show AWp _ _ _ ac66 _ _
  unfold ac66
  refine awp_seq_sw ?_
  refine sw_l (box_agg rfl (num_imms hm.sl) rfl) trivial ?_
  repeat first | refine swV (fun _ => rfl) ?_ | refine sw_l (fun _ => rfl) trivial ?_ | refine sw_ln (fun _ => rfl) ⟨rfl, leB rfl⟩ ?_ | refine sw_vg rfl (fun _ => rfl) trivial ?_ | refine sw_sk rfl rfl ?_
  refine SW.nil (awp_seq (awp_block ?_))
  refine awp_seq_sw ?_
  repeat first | refine swV (fun _ => rfl) ?_ | refine sw_l (fun _ => rfl) trivial ?_ | refine sw_ln (fun _ => rfl) ⟨rfl, leB rfl⟩ ?_ | refine sw_vg rfl (fun _ => rfl) trivial ?_ | refine sw_sk rfl rfl ?_
  refine sw_call rfl fk ?_
  repeat first | refine swV (fun _ => rfl) ?_ | refine sw_l (fun _ => rfl) trivial ?_ | refine sw_ln (fun _ => rfl) ⟨rfl, leB rfl⟩ ?_ | refine sw_vg rfl (fun _ => rfl) trivial ?_ | refine sw_sk rfl rfl ?_
  refine SW.nil ?_
  refine awp_cond rfl (fun h => ?_) fun h => ?_
  · have h0 : z = 0 := by have : k = 0 := by simp at h; omega
                          have := hk.1 this; omega
    refine awp_seq_sw ?_
    repeat first | refine swV (fun _ => rfl) ?_ | refine sw_l (fun _ => rfl) trivial ?_ | refine sw_ln (fun _ => rfl) ⟨rfl, leB rfl⟩ ?_ | refine sw_vg rfl (fun _ => rfl) trivial ?_ | refine sw_sk rfl rfl ?_
    refine SW.nil (awp_ret ?_)
    exact ⟨.inr rfl, _, rfl, by subst h0; rfl, rfl⟩
  · have h0 : z ≠ 0 := fun hh => by have : k = 0 := hk.2 (by omega)
                                    subst this; simp at h
    refine awp_seq_sw ?_
    repeat first | refine swV (fun _ => rfl) ?_ | refine sw_l (fun _ => rfl) trivial ?_ | refine sw_ln (fun _ => rfl) ⟨rfl, leB rfl⟩ ?_ | refine sw_vg rfl (fun _ => rfl) trivial ?_ | refine sw_sk rfl rfl ?_
    refine SW.nil ?_
    refine awp_cond rfl (fun h => ?_) fun h => ?_
    · have hz : z < 0 := by simpa using h
      refine awp_seq_sw ?_
      repeat first | refine swV (fun _ => rfl) ?_ | refine sw_l (fun _ => rfl) trivial ?_ | refine sw_ln (fun _ => rfl) ⟨rfl, leB rfl⟩ ?_ | refine sw_vg rfl (fun _ => rfl) trivial ?_ | refine sw_sk rfl rfl ?_
      refine SW.nil (awp_ret ?_)
      exact ⟨.inr rfl, _, rfl, by simp only [sgn, hz, if_true]; rfl, rfl⟩
    · have hz : ¬ z < 0 := by simpa using h
      refine awp_skip ?_
      show AWp _ _ _ _ _ _
      refine awp_seq_sw ?_
      repeat first | refine swV (fun _ => rfl) ?_ | refine sw_l (fun _ => rfl) trivial ?_ | refine sw_ln (fun _ => rfl) ⟨rfl, leB rfl⟩ ?_ | refine sw_vg rfl (fun _ => rfl) trivial ?_ | refine sw_sk rfl rfl ?_
      refine SW.nil (awp_ret ?_)
      exact ⟨.inr rfl, _, rfl, by simp only [sgn, hz, h0, if_false]; rfl, rfl⟩
/-- 'num.Sub'. -/
theorem fn_numSub (x y : Int) (u v : V) (hu : IsNum x u) (hv : IsNum y v) (bx : x.natAbs < BIG * BIG) (by_ : y.natAbs < BIG * BIG) (bs : x.natAbs + y.natAbs < BIG * BIG) (H : AH) : ∃ w, IsNum (x - y) w ∧ FN Tryz.prog 98 [u, v] H w H := by
  refine fn_ex ?_
  obtain ⟨w1, hw1, f1⟩ := fn_numNeg y v hv by_ H
  obtain ⟨w2, hw2, f2⟩ := fn_numAdd x (-y) u w1 hu hw1 bx (by omega) (by omega) H
  obtain ⟨m, rfl, hm⟩ := hu
  obtain ⟨k, rfl, hk⟩ := hv
  rw [show x + -y = x - y by omega] at hw2
  obtain ⟨p, rfl, hp⟩ := hw2
  refine fn_of cf98 (by simp) ?_
  show AWp _ _ _ ac98 _ _
  unfold ac98
  refine awp_seq_sw ?_
  refine sw_l (box_agg rfl (num_imms hm.sl) rfl) trivial ?_
  refine sw_l (box_agg rfl (num_imms hk.sl) rfl) trivial ?_
  repeat first | refine swV (fun _ => rfl) ?_ | refine sw_l (fun _ => rfl) trivial ?_ | refine sw_ln (fun _ => rfl) ⟨rfl, leB rfl⟩ ?_ | refine sw_vg rfl (fun _ => rfl) trivial ?_ | refine sw_sk rfl rfl ?_
  refine SW.nil (awp_seq_rw hmix ?_)
  refine rw_v' (ld_agg [_, _] rfl rfl rfl (leB rfl)) trivial ?_
  refine rw_v' (ld_agg [_, _] rfl rfl rfl (leB rfl)) trivial ?_
  refine rw_call' rfl f1 ?_
  refine rw_call' rfl f2 ?_
  refine rw_ln' (st_agg [_, _] rfl rfl (num_imms hp.sl) rfl rfl) ⟨rfl, leB rfl⟩ ?_
  refine RW.nil ⟨rfl, awp_ret ?_⟩
  exact ⟨.inr rfl, _, rfl, ⟨p, rfl, hp⟩, rfl⟩
/-- One. -/
theorem fn_one (H : AH) : FN Tryz.prog 81 [] H (.vs (digV [1]) 1) H := by
  suffices h : ∃ v' H', FN Tryz.prog 81 [] H v' H' ∧ (v' = .vs (digV [1]) 1 ∧ H' = H) by
    obtain ⟨v', H', h1, rfl, rfl⟩ := h; exact h1
  refine fn_of cf81 (by simp) ?_
  show AWp _ _ _ ac81 _ _
  unfold ac81
  refine awp_seq_sw ?_
  repeat first | refine swV (fun _ => rfl) ?_ | refine sw_l (fun _ => rfl) trivial ?_ | refine sw_ln (fun _ => rfl) ⟨rfl, leB rfl⟩ ?_ | refine sw_vg rfl (fun _ => rfl) trivial ?_ | refine sw_sk rfl rfl ?_
  refine SW.nil (awp_seq_sw ?_)
  repeat first | refine swV (fun _ => rfl) ?_ | refine sw_l (fun _ => rfl) trivial ?_ | refine sw_ln (fun _ => rfl) ⟨rfl, leB rfl⟩ ?_ | refine sw_vg rfl (fun _ => rfl) trivial ?_ | refine sw_sk rfl rfl ?_
  refine SW.nil (awp_ret ?_)
  exact ⟨.inr rfl, _, rfl, rfl, rfl⟩
theorem mag_one : IsMag 1 (.vs (digV [1]) 1) := ⟨[1], .inl rfl, Dig.cons (by decide) Dig.nil, rfl, rfl⟩
end Iso

/- One or not; a word by a word. -/
namespace Iso
open Go Go.Proofs
section
variable {ev : Opd → T} {Lg : Nat → Option (List V)} {d : Option Nat} {x y : Opd} {p q : Nat}
theorem u64_quo (hx : ev x = .v (.lit (.int .u64 (p : Int)))) (hy : ev y = .v (.lit (.int .u64 (q : Int)))) (hp : p < B64) :
    ∀ H, aopE [] d (.bin .quo x y) ev Lg H = some ⟨(q : Int) ≠ 0, .v (.lit (.int .u64 ((p / q : Nat) : Int))), {}⟩ := fun H => by
  have h0 : p / q ≤ p := Nat.div_le_self p q
  have : IntKind.u64.wrap ((p : Int).tdiv (q : Int)) = ((p / q : Nat) : Int) := by
    rw [show (p : Int).tdiv (q : Int) = ((p / q : Nat) : Int) from rfl, wrap_u64 (Int.natCast_nonneg _) (by simp only [B64] at hp; generalize p / q = r at *; omega)]
  rw [← this]; simp only [aopE, hx, hy]; rfl
theorem u64_rem (hx : ev x = .v (.lit (.int .u64 (p : Int)))) (hy : ev y = .v (.lit (.int .u64 (q : Int)))) :
    ∀ H, aopE [] d (.bin .rem x y) ev Lg H = some ⟨(q : Int) ≠ 0, .v (.lit (.int .u64 ((p % q : Nat) : Int))), {}⟩ := fun H => by
  have : (p : Int).tmod (q : Int) = ((p % q : Nat) : Int) := rfl
  rw [← this]; simp only [aopE, hx, hy]; rfl
end
/-- 'bits.Div64', of one word. -/
theorem fn_div64 (lo y : Nat) (hl : lo < B64) (hy : 0 < y) (H : AH) :
    FN Tryz.prog 171 [.lit (.int .u64 0), .lit (.int .u64 (lo : Int)), .lit (.int .u64 (y : Int))] H (.tup [.lit (.int .u64 ((lo / y : Nat) : Int)), .lit (.int .u64 ((lo % y : Nat) : Int))]) H := by
  suffices h : ∃ v' H', FN Tryz.prog 171 [.lit (.int .u64 0), .lit (.int .u64 (lo : Int)), .lit (.int .u64 (y : Int))] H v' H' ∧ (v' = (.tup [.lit (.int .u64 ((lo / y : Nat) : Int)), .lit (.int .u64 ((lo % y : Nat) : Int))]) ∧ H' = H) by
    obtain ⟨v', H', h1, rfl, rfl⟩ := h; exact h1
  refine fn_of cf171 (by simp) ?_
  show AWp _ _ _ ac171 _ _
  unfold ac171
  refine awp_seq_sw ?_
  repeat first | refine swV (fun _ => rfl) ?_ | refine sw_l (fun _ => rfl) trivial ?_ | refine sw_ln (fun _ => rfl) ⟨rfl, leB rfl⟩ ?_ | refine sw_vg rfl (fun _ => rfl) trivial ?_ | refine sw_sk rfl rfl ?_
  refine SW.nil (awp_seq_seq_sw ?_)
  repeat first | refine swV (fun _ => rfl) ?_ | refine sw_l (fun _ => rfl) trivial ?_ | refine sw_ln (fun _ => rfl) ⟨rfl, leB rfl⟩ ?_ | refine sw_vg rfl (fun _ => rfl) trivial ?_ | refine sw_sk rfl rfl ?_
  refine SW.nil ?_
  refine awp_cond rfl (fun h => by simp at h; omega) fun _ => awp_skip ?_
  refine awp_seq_seq_sw ?_
  repeat first | refine swV (fun _ => rfl) ?_ | refine sw_l (fun _ => rfl) trivial ?_ | refine sw_ln (fun _ => rfl) ⟨rfl, leB rfl⟩ ?_ | refine sw_vg rfl (fun _ => rfl) trivial ?_ | refine sw_sk rfl rfl ?_
  refine SW.nil ?_
  refine awp_cond rfl (fun h => by simp at h; omega) fun _ => awp_skip ?_
  refine awp_seq_seq_sw ?_
  repeat first | refine swV (fun _ => rfl) ?_ | refine sw_l (fun _ => rfl) trivial ?_ | refine sw_ln (fun _ => rfl) ⟨rfl, leB rfl⟩ ?_ | refine sw_vg rfl (fun _ => rfl) trivial ?_ | refine sw_sk rfl rfl ?_
  refine SW.nil ?_
  refine awp_cond rfl (fun _ => ?_) fun h => by simp at h
  refine awp_seq_rw hmix ?_
  refine rw_v' (fun _ => rfl) trivial ?_
  refine rw_v' (fun _ => rfl) trivial ?_
  refine rw_v' (u64_quo rfl rfl hl) (by omega) ?_
  refine rw_v' (fun _ => rfl) trivial ?_
  refine rw_v' (fun _ => rfl) trivial ?_
  refine rw_v' (u64_rem rfl rfl) (by omega) ?_
  repeat first | refine rw_v' (fun _ => rfl) trivial ?_ | refine rw_l' (fun _ => rfl) trivial ?_ | refine rw_ln' (fun _ => rfl) ⟨rfl, leB rfl⟩ ?_ | refine rw_vg' rfl (fun _ => rfl) trivial ?_ | refine rw_sk' rfl rfl ?_
  refine RW.nil ⟨rfl, awp_ret ?_⟩
  exact ⟨.inr rfl, _, rfl, rfl, rfl⟩
theorem mag_small {n : Nat} {v : V} (h : IsMag n v) (hn : n < B64) : (n = 0 ∧ IsSl [] v) ∨ (0 < n ∧ v = .vs (digV [n]) 1) := by
  obtain ⟨ds, hs, hd, ht, hv⟩ := h
  rcases trim_cases ds with h0 | ⟨fs, e, h1, he⟩
  · rw [ht] at h0; subst h0; exact .inl ⟨by rw [← hv]; rfl, hs⟩
  · rw [ht] at h1; subst h1
    cases fs with
    | nil =>
      have : e = n := by rw [← hv]; simp [val]
      subst this
      exact .inr ⟨by omega, hs.vs (by simp)⟩
    | cons f r =>
      exfalso
      have h2 := pow_le_val ht (by simp)
      have h3 : B64 ^ 1 ≤ B64 ^ ((f :: r ++ [e]).length - 1) := Nat.pow_le_pow_right (by decide) (by simp)
      rw [hv] at h2
      rw [Nat.pow_one] at h3
      omega
/-- Is it one? -/
theorem fn_isOne (n : Nat) (v : V) (hv : IsMag n v) (hn : n < BIG * BIG) (H : AH) : FN Tryz.prog 99 [v] H (.lit (.bool (decide (n = 1)))) H := by
  suffices h : ∃ v' H', FN Tryz.prog 99 [v] H v' H' ∧ (v' = .lit (.bool (decide (n = 1))) ∧ H' = H) by
    obtain ⟨v', H', h1, rfl, rfl⟩ := h; exact h1
  obtain ⟨ds, hs, hd, ht, hval⟩ := id hv
  have hl := short ht hval hn
  refine fn_of cf99 (by simp) ?_
  show AWp _ _ _ ac99 _ _
  unfold ac99
  refine awp_seq_sw ?_
  repeat first | refine swV (fun _ => rfl) ?_ | refine sw_l (fun _ => rfl) trivial ?_ | refine sw_ln (fun _ => rfl) ⟨rfl, leB rfl⟩ ?_ | refine sw_vg rfl (fun _ => rfl) trivial ?_ | refine sw_sk rfl rfl ?_
  refine SW.nil (awp_seq_sw ?_)
  refine swV (fun _ => rfl) ?_
  refine sw_v (len_sl rfl hs) trivial ?_
  refine swV (fun _ => rfl) ?_
  by_cases h1 : ds.length = 1
  · obtain ⟨e, rfl⟩ := List.length_eq_one_iff.1 h1
    have he : e = n := by rw [← hval]; simp [val]
    subst he
    obtain rfl := hs.vs (by simp)
    refine swV (fun _ => rfl) ?_
    refine sw_vg rfl (fun _ => rfl) trivial ?_
    refine sw_vg rfl (iad_dig (j := 0) e [] rfl rfl rfl) ⟨by decide, by simp⟩ ?_
    repeat first | refine swV (fun _ => rfl) ?_ | refine sw_l (fun _ => rfl) trivial ?_ | refine sw_ln (fun _ => rfl) ⟨rfl, leB rfl⟩ ?_ | refine sw_vg rfl (fun _ => rfl) trivial ?_ | refine sw_sk rfl rfl ?_
    refine SW.nil (awp_ret ?_)
    refine ⟨.inr rfl, _, rfl, ?_, rfl⟩
    show V.lit (.bool ((e : Int) == 1)) = _
    congr 2
    by_cases h : e = 1
    · subst h; rfl
    · simp [h]; omega
  · have hb : ((ds.length : Int) == 1) = false := by simp; omega
    rw [hb]
    refine swV (fun _ => rfl) ?_
    refine sw_sk rfl rfl ?_
    refine sw_sk rfl rfl ?_
    refine sw_sk rfl rfl ?_
    refine sw_sk rfl rfl ?_
    repeat first | refine swV (fun _ => rfl) ?_ | refine sw_l (fun _ => rfl) trivial ?_ | refine sw_ln (fun _ => rfl) ⟨rfl, leB rfl⟩ ?_ | refine sw_vg rfl (fun _ => rfl) trivial ?_ | refine sw_sk rfl rfl ?_
    refine SW.nil (awp_ret ?_)
    have hne : n ≠ 1 := fun h => by
      subst h
      rcases mag_small hv (by decide) with ⟨h0, _⟩ | ⟨_, h0⟩
      · omega
      · rcases hs with h2 | ⟨h2, _, h3⟩
        · rw [h0] at h2
          injection h2 with _ h2
          omega
        · rw [h0] at h3; cases h3
    exact ⟨.inr rfl, _, rfl, by simp only [hne, decide_false]; rfl, rfl⟩
end Iso

/- Dividing, where both are one word. -/
namespace Iso
open Go Go.Proofs
/-- 'mag.word', of one word. -/
theorem fn_word1 (n y : Nat) (hn : n < B64) (hy : 0 < y) (H : AH) :
    ∃ w, IsMag (n / y) w ∧ FN Tryz.prog 150 [.vs (digV [n]) 1, .lit (.int .u64 (y : Int))] H (.tup [w, .lit (.int .u64 ((n % y : Nat) : Int))]) H := by
  suffices h : ∃ v' H', FN Tryz.prog 150 [.vs (digV [n]) 1, .lit (.int .u64 (y : Int))] H v' H' ∧ ((∃ w, v' = .tup [w, .lit (.int .u64 ((n % y : Nat) : Int))] ∧ IsMag (n / y) w) ∧ ∀ b, b < H.next → H'.get b = H.get b) by
    obtain ⟨v', H', h1, ⟨w, rfl, hw⟩, h3⟩ := h
    obtain ⟨ds, hd, _⟩ := id hw
    exact ⟨w, hw, h1.quiet h3 ⟨hd.under _, trivial, trivial⟩⟩
  have hq : n / y < B64 := Nat.lt_of_le_of_lt (Nat.div_le_self n y) hn
  refine fn_of cf150 (by simp) ?_
  show AWp _ _ _ ac150 _ _
  unfold ac150
  refine awp_seq_sw ?_
  repeat first | refine swV (fun _ => rfl) ?_ | refine sw_l (fun _ => rfl) trivial ?_ | refine sw_ln (fun _ => rfl) ⟨rfl, leB rfl⟩ ?_ | refine sw_vg rfl (fun _ => rfl) trivial ?_ | refine sw_sk rfl rfl ?_
  refine SW.nil (awp_seq_sw ?_)
  refine swV (fun _ => rfl) ?_
  refine swV (fun _ => rfl) ?_
  refine sw_hh [] (mks_dig (k := 1) rfl rfl) ⟨by decide, by decide, by decide, by decide⟩ ?_
  repeat first | refine swV (fun _ => rfl) ?_ | refine sw_l (fun _ => rfl) trivial ?_ | refine sw_ln (fun _ => rfl) ⟨rfl, leB rfl⟩ ?_ | refine sw_vg rfl (fun _ => rfl) trivial ?_ | refine sw_sk rfl rfl ?_
  refine SW.nil (awp_seq_sw ?_)
  repeat first | refine swV (fun _ => rfl) ?_ | refine sw_l (fun _ => rfl) trivial ?_ | refine sw_ln (fun _ => rfl) ⟨rfl, leB rfl⟩ ?_ | refine sw_vg rfl (fun _ => rfl) trivial ?_ | refine sw_sk rfl rfl ?_
  refine SW.nil (awp_seq_seq_sw ?_)
  repeat first | refine swV (fun _ => rfl) ?_ | refine sw_l (fun _ => rfl) trivial ?_ | refine sw_ln (fun _ => rfl) ⟨rfl, leB rfl⟩ ?_ | refine sw_vg rfl (fun _ => rfl) trivial ?_ | refine sw_sk rfl rfl ?_
  refine SW.nil (awp_block ?_)
  refine awp_loop (γ := Bool) (fun k => match k with
    | true => ⟨[(0, .v (.vs (digV [n]) 1)), (1, .v (.lit (.int .u64 (y : Int)))), (6, .v (.hs H.next 0 1 1)), (7, .v (.lit (.int .u64 0))), (8, .v (.lit (.int .i64 0)))], [], H.push (.cells (digV [0]))⟩
    | false => ⟨[(6, .v (.hs H.next 0 1 1)), (7, .v (.lit (.int .u64 ((n % y : Nat) : Int)))), (8, .v (.lit (.int .i64 (-1))))], [], H.push (.cells (digV [n / y]))⟩)
    (fun k => match k with | true => 1 | false => 0) true (le_sub (sub_cons rfl (sub_cons rfl (sub_cons rfl (sub_cons rfl (sub_cons rfl (sub_nil _))))))) ?_
  intro k
  cases k with
  | true =>
    refine awp_seq_seq_sw ?_
    repeat first | refine swV (fun _ => rfl) ?_ | refine sw_l (fun _ => rfl) trivial ?_ | refine sw_ln (fun _ => rfl) ⟨rfl, leB rfl⟩ ?_ | refine sw_vg rfl (fun _ => rfl) trivial ?_ | refine sw_sk rfl rfl ?_
    refine SW.nil ?_
    refine awp_cond rfl (fun _ => awp_skip ?_) fun h => by simp at h
    refine awp_seq (awp_block (awp_sw ?_))
    repeat first | refine swV (fun _ => rfl) ?_ | refine sw_l (fun _ => rfl) trivial ?_ | refine sw_ln (fun _ => rfl) ⟨rfl, leB rfl⟩ ?_ | refine sw_vg rfl (fun _ => rfl) trivial ?_ | refine sw_sk rfl rfl ?_
    refine sw_v (iad_dig (j := 0) n [] rfl rfl rfl) ⟨by decide, by simp⟩ ?_
    repeat first | refine swV (fun _ => rfl) ?_ | refine sw_l (fun _ => rfl) trivial ?_ | refine sw_ln (fun _ => rfl) ⟨rfl, leB rfl⟩ ?_ | refine sw_vg rfl (fun _ => rfl) trivial ?_ | refine sw_sk rfl rfl ?_
    refine sw_call rfl (fn_div64 n y hn hy _) ?_
    repeat first | refine swV (fun _ => rfl) ?_ | refine sw_l (fun _ => rfl) trivial ?_ | refine sw_ln (fun _ => rfl) ⟨rfl, leB rfl⟩ ?_ | refine sw_vg rfl (fun _ => rfl) trivial ?_ | refine sw_sk rfl rfl ?_
    refine sw_hv [] (iad_hs (j := 0) rfl rfl (AH.push_get _ _)) ⟨by decide, by decide, rfl⟩ ?_
    refine sw_hhn [] (st_dig rfl rfl (AH.push_get _ _) (by simp)) ⟨rfl, by simp [digV]⟩ ?_
    repeat first | refine swV (fun _ => rfl) ?_ | refine sw_l (fun _ => rfl) trivial ?_ | refine sw_ln (fun _ => rfl) ⟨rfl, leB rfl⟩ ?_ | refine sw_vg rfl (fun _ => rfl) trivial ?_ | refine sw_sk rfl rfl ?_
    refine SW.nil ?_
    show AWp _ _ _ _ _ _
    refine awp_sw ?_
    repeat first | refine swV (fun _ => rfl) ?_ | refine sw_l (fun _ => rfl) trivial ?_ | refine sw_ln (fun _ => rfl) ⟨rfl, leB rfl⟩ ?_ | refine sw_vg rfl (fun _ => rfl) trivial ?_ | refine sw_sk rfl rfl ?_
    refine SW.nil ⟨false, by decide, ?_⟩
    rw [AH.push_set]
    exact le_sub (sub_cons rfl (sub_cons rfl (sub_cons rfl (sub_nil _))))
  | false =>
    refine awp_seq_seq_sw ?_
    repeat first | refine swV (fun _ => rfl) ?_ | refine sw_l (fun _ => rfl) trivial ?_ | refine sw_ln (fun _ => rfl) ⟨rfl, leB rfl⟩ ?_ | refine sw_vg rfl (fun _ => rfl) trivial ?_ | refine sw_sk rfl rfl ?_
    refine SW.nil ?_
    refine awp_cond rfl (fun h => by simp at h) fun _ => awp_exit ?_
    show AWp _ _ _ _ _ _
    obtain ⟨w, hw, fw⟩ := fn_right [n / y] (.vs (digV [n / y]) 1) (.inl rfl) (by simp) ((H.push (.cells (digV [n / y]))).del H.next)
    refine awp_le (t := ⟨[(6, .v (.vs (digV [n / y]) 1)), (7, .v (.lit (.int .u64 ((n % y : Nat) : Int))))], [], (H.push (.cells (digV [n / y]))).del H.next⟩) ?_ ?_
    · have := le_frz (s := ⟨[(6, .v (.hs H.next 0 1 1)), (7, .v (.lit (.int .u64 ((n % y : Nat) : Int))))], [], H.push (.cells (digV [n / y]))⟩) (AH.push_get H _)
      refine Le.trans (le_sub (sub_cons (t := 6) rfl (sub_cons (t := 7) rfl (sub_nil _)))) ?_
      simp only [Env.frz, T.frz, V.frz, if_true] at this
      exact this
    refine awp_seq_sw ?_
    repeat first | refine swV (fun _ => rfl) ?_ | refine sw_l (fun _ => rfl) trivial ?_ | refine sw_ln (fun _ => rfl) ⟨rfl, leB rfl⟩ ?_ | refine sw_vg rfl (fun _ => rfl) trivial ?_ | refine sw_sk rfl rfl ?_
    refine sw_call rfl fw ?_
    repeat first | refine swV (fun _ => rfl) ?_ | refine sw_l (fun _ => rfl) trivial ?_ | refine sw_ln (fun _ => rfl) ⟨rfl, leB rfl⟩ ?_ | refine sw_vg rfl (fun _ => rfl) trivial ?_ | refine sw_sk rfl rfl ?_
    refine SW.nil (awp_ret ?_)
    refine ⟨.inr rfl, _, rfl, ⟨w, rfl, trim [n / y], hw, Dig.trim (Dig.cons hq Dig.nil), trim_trim _, by rw [val_trim]; simp [val]⟩, ?_⟩
    intro b hb
    dsimp only
    rw [AH.get_del, if_neg (by omega), AH.push_lt hb]
end Iso

/- Dividing, where both are one word: mag.Div. -/
namespace Iso
open Go Go.Proofs
section
variable {P : Program} {l : Option Nat} {N : Nat} {A : Env} {L : Loc} {H : AH}
theorem sw_app0 {R : St → Prop} {r : List CI} {d sz bytes : Nat} {x y : Opd} {u : V} (hx : x.ev A = .v (.lit (.slice none 0 0))) (hy : y.ev A = .v u) (h0 : slLen u = some 0) (hc : ∀ H, slCells H sz u = some [])
    (k : SW P l N r R ⟨(d, .v (.lit (.slice none 0 0))) :: A, L, H⟩) : SW P l N (⟨some d, none, .app sz bytes x y⟩ :: r) R ⟨A, L, H⟩ := by
  refine SW.cons ⟨some d, .v (.lit (.slice none 0 0)), { tmps := opdTmps [x, y] }, {}⟩ (good_plain (goodI_of_aop (G := []) rfl fun t ht hwf => ⟨hwf.any (some d) _, t, ?_, Same.refl _⟩)) k
  have e1 : x.ev t.A = .v (.lit (.slice none 0 0)) := by
    rw [← hx]; exact ev_agree (s := ⟨A, L, H⟩) fun n hn => ht.A n (mem_opdTmps (by simp) n hn)
  have e2 : y.ev t.A = .v u := by
    rw [← hy]; exact ev_agree (s := ⟨A, L, H⟩) fun n hn => ht.A n (mem_opdTmps (by simp) n hn)
  simp only [aop, e1, e2, h0, hc t.H, V.ones, if_true]
theorem IsSl.len0 {u : V} (h : IsSl [] u) : slLen u = some 0 := by rcases h with rfl | ⟨_, _, rfl⟩ <;> rfl
theorem IsSl.cells0 {u : V} (h : IsSl [] u) : ∀ H, slCells H 1 u = some [] := fun H => by rcases h with rfl | ⟨_, _, rfl⟩ <;> rfl
end
theorem app_dig {ev : Opd → T} {Lg : Nat → Option (List V)} {H : AH} {G : List Nat} {d : Option Nat} {x y : Opd} {ds : List Nat} (hx : ev x = .v (.lit (.slice none 0 0))) (hy : ev y = .v (.vs (digV ds) ds.length)) :
    aopE G d (.app 1 8 x y) ev Lg H = some ⟨V.ones H (digV ds) = true ∧ ds.length ≠ 0 ∧ ds.length * 8 ≤ 2 ^ 47 ∧ ds.length ≤ 2 ^ 47, .v (.hs H.next 0 ds.length 1), { heap := some (H.push (.cells (digV ds))) }⟩ := by
  simp only [aopE, hx, hy, slLen, slCells, digV_length, Nat.mul_one, if_true]
theorem dig_ones (H : AH) (ds : List Nat) : V.ones H (digV ds) = true := by
  induction ds with
  | nil => rfl
  | cons d r ih => exact ih
/-- 'mag.Div', of one word by one word. -/
theorem fn_div1 (a b : Nat) (u v : V) (hu : IsMag a u) (hv : IsMag b v) (ha : a < B64) (hb : 0 < b) (hb2 : b < B64) (H : AH) :
    ∃ q r, IsMag (a / b) q ∧ IsMag (a % b) r ∧ FN Tryz.prog 102 [u, v] H (.tup [q, r]) H := by
  suffices h : ∃ v' H', FN Tryz.prog 102 [u, v] H v' H' ∧ ((∃ q r, v' = .tup [q, r] ∧ IsMag (a / b) q ∧ IsMag (a % b) r) ∧ ∀ b, b < H.next → H'.get b = H.get b) by
    obtain ⟨v', H', h1, ⟨q, r, rfl, hq, hr⟩, h3⟩ := h
    obtain ⟨ds, hd, _⟩ := id hq
    obtain ⟨es, he, _⟩ := id hr
    exact ⟨q, r, hq, hr, h1.quiet h3 ⟨hd.under _, he.under _, trivial⟩⟩
  obtain ⟨ds, us, ud, ut, uv⟩ := id hu
  obtain ⟨es, vs, vd, vt, vv⟩ := id hv
  have hB : B64 ≤ BIG * BIG := by decide +kernel
  have lu := short ut uv (Nat.lt_of_lt_of_le ha hB)
  have lv := short vt vv (Nat.lt_of_lt_of_le hb2 hB)
  obtain ⟨u', hu', fu⟩ := fn_right ds u us (by omega) H
  obtain ⟨v', hv', fv⟩ := fn_right es v vs (by omega) H
  rw [ut] at hu'
  rw [vt] at hv'
  have mu : IsMag a u' := ⟨ds, hu', ud, ut, uv⟩
  have mv : IsMag b v' := ⟨es, hv', vd, vt, vv⟩
  have fc := fn_cmp ds es u' v' hu' hv' ud vd (by omega) (by omega) H
  rw [uv, vv] at fc
  obtain ⟨_, rfl⟩ := (mag_small mv hb2).resolve_left fun h => by omega
  clear hv'
  refine fn_of cf102 (by simp) ?_
  show AWp _ _ _ ac102 _ _
  unfold ac102
  refine awp_seq_sw ?_
  repeat first | refine swV (fun _ => rfl) ?_ | refine sw_l (fun _ => rfl) trivial ?_ | refine sw_ln (fun _ => rfl) ⟨rfl, leB rfl⟩ ?_ | refine sw_vg rfl (fun _ => rfl) trivial ?_ | refine sw_sk rfl rfl ?_
  refine SW.nil (awp_seq_sw ?_)
  repeat first | refine swV (fun _ => rfl) ?_ | refine sw_l (fun _ => rfl) trivial ?_ | refine sw_ln (fun _ => rfl) ⟨rfl, leB rfl⟩ ?_ | refine sw_vg rfl (fun _ => rfl) trivial ?_ | refine sw_sk rfl rfl ?_
  refine sw_call rfl fu ?_
  repeat first | refine swV (fun _ => rfl) ?_ | refine sw_l (fun _ => rfl) trivial ?_ | refine sw_ln (fun _ => rfl) ⟨rfl, leB rfl⟩ ?_ | refine sw_vg rfl (fun _ => rfl) trivial ?_ | refine sw_sk rfl rfl ?_
  refine sw_call rfl fv ?_
  repeat first | refine swV (fun _ => rfl) ?_ | refine sw_l (fun _ => rfl) trivial ?_ | refine sw_ln (fun _ => rfl) ⟨rfl, leB rfl⟩ ?_ | refine sw_vg rfl (fun _ => rfl) trivial ?_ | refine sw_sk rfl rfl ?_
  refine SW.nil (awp_seq (awp_block ?_))
  refine awp_seq_sw ?_
  repeat first | refine swV (fun _ => rfl) ?_ | refine sw_l (fun _ => rfl) trivial ?_ | refine sw_ln (fun _ => rfl) ⟨rfl, leB rfl⟩ ?_ | refine sw_vg rfl (fun _ => rfl) trivial ?_ | refine sw_sk rfl rfl ?_
  refine sw_callg rfl rfl fc ?_
  repeat first | refine swV (fun _ => rfl) ?_ | refine sw_l (fun _ => rfl) trivial ?_ | refine sw_ln (fun _ => rfl) ⟨rfl, leB rfl⟩ ?_ | refine sw_vg rfl (fun _ => rfl) trivial ?_ | refine sw_sk rfl rfl ?_
  refine SW.nil ?_
  refine awp_cond rfl (fun h => ?_) fun h => ?_
  · have hlt : a < b := by
      rcases Nat.lt_or_ge a b with hh | hh
      · exact hh
      · exfalso
        rcases Nat.lt_or_ge b a with h3 | h3
        · rw [cmpI_gt h3] at h; simp at h
        · rw [show a = b by omega, cmpI_eq] at h; simp at h
    rw [Nat.div_eq_of_lt hlt, Nat.mod_eq_of_lt hlt]
    have m0 : IsMag 0 (.lit (.slice none 0 0)) := ⟨[], .inr ⟨rfl, none, rfl⟩, Dig.nil, rfl, rfl⟩
    refine awp_seq_sw ?_
    refine swV (fun _ => rfl) ?_
    rcases mag_small mu ha with ⟨h0, hs⟩ | ⟨h0, rfl⟩
    · refine sw_app0 rfl rfl hs.len0 hs.cells0 ?_
      repeat first | refine swV (fun _ => rfl) ?_ | refine sw_l (fun _ => rfl) trivial ?_ | refine sw_ln (fun _ => rfl) ⟨rfl, leB rfl⟩ ?_ | refine sw_vg rfl (fun _ => rfl) trivial ?_ | refine sw_sk rfl rfl ?_
      refine SW.nil (awp_ret ?_)
      exact ⟨.inr rfl, _, rfl, ⟨_, _, rfl, m0, h0 ▸ m0⟩, fun _ _ => rfl⟩
    · refine sw_hh [] (app_dig (ds := [a]) rfl rfl) ⟨dig_ones _ _, by simp, by simp, by simp⟩ ?_
      repeat first | refine swV (fun _ => rfl) ?_ | refine sw_l (fun _ => rfl) trivial ?_ | refine sw_ln (fun _ => rfl) ⟨rfl, leB rfl⟩ ?_ | refine sw_vg rfl (fun _ => rfl) trivial ?_ | refine sw_sk rfl rfl ?_
      refine SW.nil ?_
      refine awp_le (t := ⟨[(4, .v (.lit (.slice none 0 0))), (5, .v (.vs (digV [a]) 1))], [], (H.push (.cells (digV [a]))).del H.next⟩) ?_ ?_
      · have := le_frz (s := ⟨[(4, .v (.lit (.slice none 0 0))), (5, .v (.hs H.next 0 1 1))], [], H.push (.cells (digV [a]))⟩) (AH.push_get H _)
        refine Le.trans (le_sub (sub_cons (t := 4) rfl (sub_cons (t := 5) rfl (sub_nil _)))) ?_
        simp only [Env.frz, T.frz, V.frz, if_true] at this
        exact this
      refine awp_ret ?_
      refine ⟨.inr rfl, _, rfl, ⟨_, _, rfl, m0, mu⟩, fun b hb => ?_⟩
      dsimp only
      rw [AH.get_del, if_neg (by omega), AH.push_lt hb]
  · obtain ⟨h0, rfl⟩ := (mag_small mu ha).resolve_left fun hh => by
      rw [cmpI_lt (show a < b by omega)] at h; simp at h
    obtain ⟨w, hw, fw⟩ := fn_word1 a b ha hb H
    obtain ⟨r, hr, fr⟩ := fn_magOf (a % b) (Nat.lt_trans (Nat.mod_lt _ hb) hb2) H
    refine awp_seq_sw ?_
    repeat first | refine swV (fun _ => rfl) ?_ | refine sw_l (fun _ => rfl) trivial ?_ | refine sw_ln (fun _ => rfl) ⟨rfl, leB rfl⟩ ?_ | refine sw_vg rfl (fun _ => rfl) trivial ?_ | refine sw_sk rfl rfl ?_
    refine SW.nil ?_
    refine awp_cond rfl (fun _ => ?_) fun h => by simp at h
    refine awp_seq_sw ?_
    refine swV (fun _ => rfl) ?_
    refine swV (fun _ => rfl) ?_
    refine sw_v (iad_dig (j := 0) b [] rfl rfl rfl) ⟨by decide, by simp⟩ ?_
    repeat first | refine swV (fun _ => rfl) ?_ | refine sw_l (fun _ => rfl) trivial ?_ | refine sw_ln (fun _ => rfl) ⟨rfl, leB rfl⟩ ?_ | refine sw_vg rfl (fun _ => rfl) trivial ?_ | refine sw_sk rfl rfl ?_
    refine sw_call rfl fw ?_
    repeat first | refine swV (fun _ => rfl) ?_ | refine sw_l (fun _ => rfl) trivial ?_ | refine sw_ln (fun _ => rfl) ⟨rfl, leB rfl⟩ ?_ | refine sw_vg rfl (fun _ => rfl) trivial ?_ | refine sw_sk rfl rfl ?_
    refine SW.nil (awp_seq_sw ?_)
    repeat first | refine swV (fun _ => rfl) ?_ | refine sw_l (fun _ => rfl) trivial ?_ | refine sw_ln (fun _ => rfl) ⟨rfl, leB rfl⟩ ?_ | refine sw_vg rfl (fun _ => rfl) trivial ?_ | refine sw_sk rfl rfl ?_
    refine sw_call rfl fr ?_
    repeat first | refine swV (fun _ => rfl) ?_ | refine sw_l (fun _ => rfl) trivial ?_ | refine sw_ln (fun _ => rfl) ⟨rfl, leB rfl⟩ ?_ | refine sw_vg rfl (fun _ => rfl) trivial ?_ | refine sw_sk rfl rfl ?_
    refine SW.nil (awp_ret ?_)
    exact ⟨.inr rfl, _, rfl, ⟨_, _, rfl, hw, hr⟩, fun _ _ => rfl⟩
end Iso

/- The greatest common divisor, of words. -/
namespace Iso
open Go Go.Proofs
/-- 'mag.Gcd', of words. -/
theorem fn_gcd1 (a b : Nat) (u v : V) (hu : IsMag a u) (hv : IsMag b v) (ha : a < B64) (hb : 0 < b) (hb2 : b < B64) (H : AH) :
    ∃ w, IsMag (Nat.gcd a b) w ∧ FN Tryz.prog 100 [u, v] H w H := by
  suffices h : ∃ w H', FN Tryz.prog 100 [u, v] H w H' ∧ (IsMag (Nat.gcd a b) w ∧ ∀ b, b < H.next → H'.get b = H.get b) by
    obtain ⟨w, H', h1, hq, h3⟩ := h
    obtain ⟨ds, hd, _⟩ := id hq
    exact ⟨w, hq, h1.quiet h3 (hd.under _)⟩
  obtain ⟨ds, us, ud, ut, uv⟩ := id hu
  obtain ⟨es, vs, vd, vt, vv⟩ := id hv
  have hB : B64 ≤ BIG * BIG := by decide +kernel
  have lu := short ut uv (Nat.lt_of_lt_of_le ha hB)
  have lv := short vt vv (Nat.lt_of_lt_of_le hb2 hB)
  obtain ⟨u', hu', fu⟩ := fn_right ds u us (by omega) H
  obtain ⟨v', hv', fv⟩ := fn_right es v vs (by omega) H
  rw [ut] at hu'
  rw [vt] at hv'
  have mu : IsMag a u' := ⟨ds, hu', ud, ut, uv⟩
  have mv : IsMag b v' := ⟨es, hv', vd, vt, vv⟩
  obtain ⟨_, rfl⟩ := (mag_small mv hb2).resolve_left fun h => by omega
  clear hv'
  refine fn_of cf100 (by simp) ?_
  show AWp _ _ _ ac100 _ _
  unfold ac100
  refine awp_seq_sw ?_
  repeat first | refine swV (fun _ => rfl) ?_ | refine sw_l (fun _ => rfl) trivial ?_ | refine sw_ln (fun _ => rfl) ⟨rfl, leB rfl⟩ ?_ | refine sw_vg rfl (fun _ => rfl) trivial ?_ | refine sw_sk rfl rfl ?_
  refine SW.nil (awp_seq_sw ?_)
  repeat first | refine swV (fun _ => rfl) ?_ | refine sw_l (fun _ => rfl) trivial ?_ | refine sw_ln (fun _ => rfl) ⟨rfl, leB rfl⟩ ?_ | refine sw_vg rfl (fun _ => rfl) trivial ?_ | refine sw_sk rfl rfl ?_
  refine sw_call rfl fu ?_
  repeat first | refine swV (fun _ => rfl) ?_ | refine sw_l (fun _ => rfl) trivial ?_ | refine sw_ln (fun _ => rfl) ⟨rfl, leB rfl⟩ ?_ | refine sw_vg rfl (fun _ => rfl) trivial ?_ | refine sw_sk rfl rfl ?_
  refine sw_call rfl fv ?_
  repeat first | refine swV (fun _ => rfl) ?_ | refine sw_l (fun _ => rfl) trivial ?_ | refine sw_ln (fun _ => rfl) ⟨rfl, leB rfl⟩ ?_ | refine sw_vg rfl (fun _ => rfl) trivial ?_ | refine sw_sk rfl rfl ?_
  refine SW.nil (awp_seq (awp_block ?_))
  refine awp_seq_sw ?_
  refine swV (fun _ => rfl) ?_
  refine sw_v (len_sl rfl hu') trivial ?_
  repeat first | refine swV (fun _ => rfl) ?_ | refine sw_l (fun _ => rfl) trivial ?_ | refine sw_ln (fun _ => rfl) ⟨rfl, leB rfl⟩ ?_ | refine sw_vg rfl (fun _ => rfl) trivial ?_ | refine sw_sk rfl rfl ?_
  refine SW.nil ?_
  rcases mag_small mu ha with ⟨h0, hs⟩ | ⟨h0, rfl⟩
  · have hds : ds = [] := (val_eq_zero ut).1 (by omega)
    subst hds
    refine awp_cond rfl (fun _ => ?_) fun h => by simp at h
    rw [h0, Nat.gcd_zero_left]
    refine awp_seq_sw ?_
    refine swV (fun _ => rfl) ?_
    refine sw_hh [] (app_dig (ds := [b]) rfl rfl) ⟨dig_ones _ _, by simp, by simp, by simp⟩ ?_
    repeat first | refine swV (fun _ => rfl) ?_ | refine sw_l (fun _ => rfl) trivial ?_ | refine sw_ln (fun _ => rfl) ⟨rfl, leB rfl⟩ ?_ | refine sw_vg rfl (fun _ => rfl) trivial ?_ | refine sw_sk rfl rfl ?_
    refine SW.nil ?_
    refine awp_le (le_sub (sub_cons (t := 4) rfl (sub_nil _))) ?_
    refine awp_le (le_frz1 (AH.push_get _ _) (by simp [digV])) ?_
    refine awp_ret ?_
    refine ⟨.inr rfl, _, rfl, mv, fun b hb => ?_⟩
    dsimp only
    rw [AH.get_del, if_neg (by omega), AH.push_lt hb]
  · have hds : ds.length = 1 := by
      rcases hu' with h2 | ⟨h2, _, h3⟩
      · injection h2 with _ h2; exact h2.symm
      · cases h3
    refine awp_cond rfl (fun h => by simp [hds] at h) fun _ => ?_
    refine awp_seq_sw ?_
    repeat first | refine swV (fun _ => rfl) ?_ | refine sw_l (fun _ => rfl) trivial ?_ | refine sw_ln (fun _ => rfl) ⟨rfl, leB rfl⟩ ?_ | refine sw_vg rfl (fun _ => rfl) trivial ?_ | refine sw_sk rfl rfl ?_
    refine SW.nil ?_
    refine awp_cond rfl (fun h => by simp at h) fun _ => awp_skip ?_
    show AWp _ _ _ _ _ _
    refine awp_seq (awp_block ?_)
    refine awp_le (t := ⟨[(0, .v (.vs (digV [a]) 1)), (1, .v (.vs (digV [b]) 1))], [], H⟩) (le_sub (sub_cons rfl (sub_cons rfl (sub_nil _)))) ?_
    refine awp_loop (γ := Unit) (fun _ => ⟨[(0, .v (.vs (digV [a]) 1)), (1, .v (.vs (digV [b]) 1))], [], H⟩) (fun _ => 0) () (Le.refl _) ?_
    intro _
    refine awp_seq_seq_sw ?_
    repeat first | refine swV (fun _ => rfl) ?_ | refine sw_l (fun _ => rfl) trivial ?_ | refine sw_ln (fun _ => rfl) ⟨rfl, leB rfl⟩ ?_ | refine sw_vg rfl (fun _ => rfl) trivial ?_ | refine sw_sk rfl rfl ?_
    refine SW.nil ?_
    refine awp_cond rfl (fun h => by simp at h) fun _ => ?_
    refine awp_exit ?_
    show AWp _ _ _ _ _ _
    refine awp_seq_seq_sw ?_
    repeat first | refine swV (fun _ => rfl) ?_ | refine sw_l (fun _ => rfl) trivial ?_ | refine sw_ln (fun _ => rfl) ⟨rfl, leB rfl⟩ ?_ | refine sw_vg rfl (fun _ => rfl) trivial ?_ | refine sw_sk rfl rfl ?_
    refine SW.nil ?_
    refine awp_cond rfl (fun h => by simp at h) fun _ => awp_skip ?_
    show AWp _ _ _ _ _ _
    refine awp_seq_rw hmix ?_
    refine rw_v' (fun _ => rfl) trivial ?_
    refine rw_v' (iad_dig (j := 0) a [] rfl rfl rfl) ⟨by decide, by simp⟩ ?_
    refine rw_v' (fun _ => rfl) trivial ?_
    refine rw_v' (fun _ => rfl) trivial ?_
    refine rw_v' (iad_dig (j := 0) b [] rfl rfl rfl) ⟨by decide, by simp⟩ ?_
    repeat first | refine rw_v' (fun _ => rfl) trivial ?_ | refine rw_l' (fun _ => rfl) trivial ?_ | refine rw_ln' (fun _ => rfl) ⟨rfl, leB rfl⟩ ?_ | refine rw_vg' rfl (fun _ => rfl) trivial ?_ | refine rw_sk' rfl rfl ?_
    refine RW.nil ⟨rfl, ?_⟩
    refine awp_seq (awp_block ?_)
    refine awp_loop (γ := { p : Nat × Nat // 0 < p.1 ∧ p.1 < B64 ∧ p.2 < B64 ∧ Nat.gcd p.1 p.2 = Nat.gcd a b }) (fun p => ⟨[(7, .v (.lit (.int .u64 (p.1.1 : Int)))), (8, .v (.lit (.int .u64 (p.1.2 : Int))))], [], H⟩) (fun p => p.1.2)
      ⟨(a, b), h0, ha, hb2, rfl⟩ (le_sub (sub_cons rfl (sub_cons rfl (sub_nil _)))) ?_
    rintro ⟨⟨x, y⟩, hx0, hx, hy, hg⟩
    dsimp only at hx0 hx hy hg ⊢
    refine awp_seq_seq_sw ?_
    repeat first | refine swV (fun _ => rfl) ?_ | refine sw_l (fun _ => rfl) trivial ?_ | refine sw_ln (fun _ => rfl) ⟨rfl, leB rfl⟩ ?_ | refine sw_vg rfl (fun _ => rfl) trivial ?_ | refine sw_sk rfl rfl ?_
    refine SW.nil ?_
    refine awp_cond rfl (fun h => awp_skip ?_) fun h => awp_exit ?_
    · have hy0 : 0 < y := by simp at h; omega
      refine awp_block ?_
      refine awp_rw hmix ?_
      refine rw_v' (fun _ => rfl) trivial ?_
      refine rw_v' (fun _ => rfl) trivial ?_
      refine rw_v' (fun _ => rfl) trivial ?_
      refine rw_v' (u64_rem rfl rfl) (by omega) ?_
      repeat first | refine rw_v' (fun _ => rfl) trivial ?_ | refine rw_l' (fun _ => rfl) trivial ?_ | refine rw_ln' (fun _ => rfl) ⟨rfl, leB rfl⟩ ?_ | refine rw_vg' rfl (fun _ => rfl) trivial ?_ | refine rw_sk' rfl rfl ?_
      refine RW.nil ⟨rfl, ?_⟩
      refine ⟨⟨(y, x % y), hy0, hy, Nat.lt_trans (Nat.mod_lt _ hy0) hy, ?_⟩, Nat.mod_lt _ hy0, le_sub (sub_cons rfl (sub_cons rfl (sub_nil _)))⟩
      dsimp only
      rw [← hg, Nat.gcd_comm y, ← Nat.gcd_rec, Nat.gcd_comm]
    · have hy0 : y = 0 := by simp at h; omega
      subst hy0
      rw [Nat.gcd_zero_right] at hg
      subst hg
      show AWp _ _ _ _ _ _
      obtain ⟨w, hw, fw⟩ := fn_magOf _ hx H
      refine awp_seq_sw ?_
      repeat first | refine swV (fun _ => rfl) ?_ | refine sw_l (fun _ => rfl) trivial ?_ | refine sw_ln (fun _ => rfl) ⟨rfl, leB rfl⟩ ?_ | refine sw_vg rfl (fun _ => rfl) trivial ?_ | refine sw_sk rfl rfl ?_
      refine sw_call rfl fw ?_
      repeat first | refine swV (fun _ => rfl) ?_ | refine sw_l (fun _ => rfl) trivial ?_ | refine sw_ln (fun _ => rfl) ⟨rfl, leB rfl⟩ ?_ | refine sw_vg rfl (fun _ => rfl) trivial ?_ | refine sw_sk rfl rfl ?_
      refine SW.nil (awp_ret ?_)
      exact ⟨.inr rfl, _, rfl, hw, fun _ _ => rfl⟩
end Iso

/- Fractions: what they are; lowest terms. -/
namespace Iso
open Go Go.Proofs
/-- The fraction n / d, as it is written down; an empty denominator is one. -/
def FracAt (n : Int) (d : Nat) (v : V) : Prop := ∃ m k e, v = .agg [.lit (.bool (decide (n < 0))), m, k] ∧ IsMag n.natAbs m ∧ IsMag e k ∧ (e = d ∨ (e = 0 ∧ d = 1)) ∧ 0 < d
/-- A fraction that n / d can be brought down to. -/
def IsFrac (n : Int) (d : Nat) (v : V) : Prop := ∃ (n' : Int) (d' g : Nat), 0 < g ∧ n = n' * g ∧ d = d' * g ∧ FracAt n' d' v
theorem frac_imms {b : Bool} {m k : V} (h : Imm m) (h' : Imm k) : Imms [.lit (.bool b), m, k] := Imms.cons (imm_bool b) (Imms.cons h (Imms.cons h' Imms.nil))
/-- 'frac.den'. -/
theorem fn_den (n : Int) (d : Nat) (v : V) (hv : FracAt n d v) (hd : d < BIG * BIG) (H : AH) : ∃ w, IsMag d w ∧ FN Tryz.prog 62 [v] H w H := by
  refine fn_ex ?_
  obtain ⟨m, k, e, rfl, hm, hk, he, h0⟩ := hv
  have hB : 0 < BIG * BIG := by decide +kernel
  obtain ⟨j, hj, fj⟩ := fn_magLen e k hk (by omega) H
  refine fn_of cf62 (by simp) ?_
  show AWp _ _ _ ac62 _ _
  unfold ac62
  refine awp_seq_sw ?_
  refine sw_l (box_agg rfl (frac_imms hm.sl hk.sl) rfl) trivial ?_
  repeat first | refine swV (fun _ => rfl) ?_ | refine sw_l (fun _ => rfl) trivial ?_ | refine sw_ln (fun _ => rfl) ⟨rfl, leB rfl⟩ ?_ | refine sw_vg rfl (fun _ => rfl) trivial ?_ | refine sw_sk rfl rfl ?_
  refine SW.nil (awp_seq_seq_sw ?_)
  repeat first | refine swV (fun _ => rfl) ?_ | refine sw_l (fun _ => rfl) trivial ?_ | refine sw_ln (fun _ => rfl) ⟨rfl, leB rfl⟩ ?_ | refine sw_vg rfl (fun _ => rfl) trivial ?_ | refine sw_sk rfl rfl ?_
  refine sw_call rfl fj ?_
  repeat first | refine swV (fun _ => rfl) ?_ | refine sw_l (fun _ => rfl) trivial ?_ | refine sw_ln (fun _ => rfl) ⟨rfl, leB rfl⟩ ?_ | refine sw_vg rfl (fun _ => rfl) trivial ?_ | refine sw_sk rfl rfl ?_
  refine SW.nil ?_
  refine awp_cond rfl (fun h => ?_) fun h => ?_
  · have hj0 : j = 0 := by simp at h; omega
    have he0 := hj.1 hj0
    have hd1 : d = 1 := by omega
    refine awp_seq_sw ?_
    refine sw_call rfl (fn_one H) ?_
    repeat first | refine swV (fun _ => rfl) ?_ | refine sw_l (fun _ => rfl) trivial ?_ | refine sw_ln (fun _ => rfl) ⟨rfl, leB rfl⟩ ?_ | refine sw_vg rfl (fun _ => rfl) trivial ?_ | refine sw_sk rfl rfl ?_
    refine SW.nil (awp_ret ?_)
    exact ⟨.inr rfl, _, rfl, hd1 ▸ mag_one, rfl⟩
  · have hj0 : j ≠ 0 := by rintro rfl; simp at h
    have he0 : e ≠ 0 := fun hh => hj0 (hj.2 hh)
    have hed : e = d := by omega
    refine awp_skip ?_
    refine awp_seq_sw ?_
    repeat first | refine swV (fun _ => rfl) ?_ | refine sw_l (fun _ => rfl) trivial ?_ | refine sw_ln (fun _ => rfl) ⟨rfl, leB rfl⟩ ?_ | refine sw_vg rfl (fun _ => rfl) trivial ?_ | refine sw_sk rfl rfl ?_
    refine SW.nil (awp_ret ?_)
    exact ⟨.inr rfl, _, rfl, hed ▸ hk, rfl⟩
theorem IsMag.pos_imm {n : Nat} {v : V} (h : IsMag n v) : ∀ H, v.cells? H = some [v] := h.sl.cell
/-- 'frac.low': lowest terms, of words. -/
theorem fn_low (n : Int) (d : Nat) (u k : V) (hu : IsNum n u) (hk : IsMag d k) (hn : n.natAbs < B64) (h0 : 0 < d) (hd : d < B64) (H : AH) : ∃ w, IsFrac n d w ∧ FN Tryz.prog 60 [u, k] H w H := by
  refine fn_ex ?_
  obtain ⟨m, rfl, hm⟩ := hu
  have hB : B64 ≤ BIG * BIG := by decide +kernel
  have hB2 : 1 < B64 := by decide
  refine fn_of cf60 (by simp) ?_
  show AWp _ _ _ ac60 _ _
  unfold ac60
  refine awp_seq_sw ?_
  refine sw_l (box_agg rfl (num_imms hm.sl) rfl) trivial ?_
  repeat first | refine swV (fun _ => rfl) ?_ | refine sw_l (fun _ => rfl) trivial ?_ | refine sw_ln (fun _ => rfl) ⟨rfl, leB rfl⟩ ?_ | refine sw_vg rfl (fun _ => rfl) trivial ?_ | refine sw_sk rfl rfl ?_
  refine SW.nil (awp_seq_sw ?_)
  refine sw_call rfl (fn_one H) ?_
  repeat first | refine swV (fun _ => rfl) ?_ | refine sw_l (fun _ => rfl) trivial ?_ | refine sw_ln (fun _ => rfl) ⟨rfl, leB rfl⟩ ?_ | refine sw_vg rfl (fun _ => rfl) trivial ?_ | refine sw_sk rfl rfl ?_
  refine SW.nil (awp_seq_seq_sw ?_)
  repeat first | refine swV (fun _ => rfl) ?_ | refine sw_l (fun _ => rfl) trivial ?_ | refine sw_ln (fun _ => rfl) ⟨rfl, leB rfl⟩ ?_ | refine sw_vg rfl (fun _ => rfl) trivial ?_ | refine sw_sk rfl rfl ?_
  refine sw_call rfl (fn_isOne d k hk (by omega) H) ?_
  repeat first | refine swV (fun _ => rfl) ?_ | refine sw_l (fun _ => rfl) trivial ?_ | refine sw_ln (fun _ => rfl) ⟨rfl, leB rfl⟩ ?_ | refine sw_vg rfl (fun _ => rfl) trivial ?_ | refine sw_sk rfl rfl ?_
  refine SW.nil ?_
  refine awp_join (γ := { p : Nat × V // 0 < p.1 ∧ p.1 < B64 ∧ p.1 ∣ n.natAbs ∧ p.1 ∣ d ∧ IsMag p.1 p.2 })
    (fun p => ⟨[(1, .v k), (2, .lp 2 0), (4, .lp 4 0), (5, .v p.1.2)], [(4, [.lit (.bool false), .lit (.slice none 0 0), .lit (.slice none 0 0)]), (2, [.lit (.bool (decide (n < 0))), m])], H⟩) ?_ ?_
  · refine awp_cond rfl (fun _ => ?_) fun _ => ?_
    · obtain ⟨w, hw, fw⟩ := fn_gcd1 n.natAbs d m k hm hk hn h0 hd H
      refine awp_sw ?_
      repeat first | refine swV (fun _ => rfl) ?_ | refine sw_l (fun _ => rfl) trivial ?_ | refine sw_ln (fun _ => rfl) ⟨rfl, leB rfl⟩ ?_ | refine sw_vg rfl (fun _ => rfl) trivial ?_ | refine sw_sk rfl rfl ?_
      refine sw_call rfl fw ?_
      repeat first | refine swV (fun _ => rfl) ?_ | refine sw_l (fun _ => rfl) trivial ?_ | refine sw_ln (fun _ => rfl) ⟨rfl, leB rfl⟩ ?_ | refine sw_vg rfl (fun _ => rfl) trivial ?_ | refine sw_sk rfl rfl ?_
      refine SW.nil ⟨⟨(Nat.gcd n.natAbs d, w), Nat.gcd_pos_of_pos_right _ h0, Nat.lt_of_le_of_lt (Nat.gcd_le_right _ h0) hd, Nat.gcd_dvd_left _ _, Nat.gcd_dvd_right _ _, hw⟩, ?_⟩
      exact le_sub (sub_cons rfl (sub_cons rfl (sub_cons rfl (sub_cons rfl (sub_nil _)))))
    · refine awp_skip ⟨⟨(1, _), by decide, hB2, Nat.one_dvd _, Nat.one_dvd _, mag_one⟩, ?_⟩
      exact le_sub (sub_cons rfl (sub_cons rfl (sub_cons rfl (sub_cons rfl (sub_nil _)))))
  rintro ⟨⟨g, w⟩, hg0, hg, hgn, hgd, hw⟩
  dsimp only at hg0 hg hgn hgd hw ⊢
  refine awp_seq_seq_sw ?_
  repeat first | refine swV (fun _ => rfl) ?_ | refine sw_l (fun _ => rfl) trivial ?_ | refine sw_ln (fun _ => rfl) ⟨rfl, leB rfl⟩ ?_ | refine sw_vg rfl (fun _ => rfl) trivial ?_ | refine sw_sk rfl rfl ?_
  refine sw_call rfl (fn_isOne g w hw (by omega) H) ?_
  refine SW.nil ?_
  refine awp_cond rfl (fun _ => ?_) fun _ => awp_skip ?_
  · obtain ⟨p, hp, fp⟩ := fn_numMake (decide (n < 0)) n.natAbs m hm (by omega) H
    have hp := hp.of_make (z := n) (by by_cases h : n < 0 <;> simp [h] <;> omega)
    obtain ⟨pm, rfl, hpm⟩ := hp
    obtain ⟨ks, kk, kd, kt, kv⟩ := id hk
    obtain ⟨q, hq, fq⟩ := fn_add ks [] k (.lit (.slice none 0 0)) kk (.inr ⟨rfl, none, rfl⟩) kd Dig.nil (by have := short kt kv (by omega); omega) (by simp) H
    rw [kv, show val [] = 0 from rfl, Nat.add_zero] at hq
    refine awp_seq_sw ?_
    repeat first | refine swV (fun _ => rfl) ?_ | refine sw_l (fun _ => rfl) trivial ?_ | refine sw_ln (fun _ => rfl) ⟨rfl, leB rfl⟩ ?_ | refine sw_vg rfl (fun _ => rfl) trivial ?_ | refine sw_sk rfl rfl ?_
    refine sw_call rfl fp ?_
    repeat first | refine swV (fun _ => rfl) ?_ | refine sw_l (fun _ => rfl) trivial ?_ | refine sw_ln (fun _ => rfl) ⟨rfl, leB rfl⟩ ?_ | refine sw_vg rfl (fun _ => rfl) trivial ?_ | refine sw_sk rfl rfl ?_
    refine sw_call rfl fq ?_
    refine sw_v (bld_of [_, _, _] (fill_cons (l := [_, _]) rfl (num_imms hpm.sl).cells ⟨rfl, leB rfl⟩ rfl (fill_cons (l := [_]) rfl hq.sl.cell ⟨rfl, leB rfl⟩ rfl fill_nil))) trivial ?_
    refine sw_ln (st_agg [_, _, _] rfl rfl (frac_imms hpm.sl hq.sl) rfl rfl) ⟨rfl, leB rfl⟩ ?_
    refine SW.nil (awp_ret ?_)
    exact ⟨.inr rfl, _, rfl, ⟨n, d, 1, by decide, by omega, by omega, pm, q, d, rfl, hpm, hq, .inl rfl, h0⟩, rfl⟩
  · obtain ⟨q1, r1, hq1, _, f1⟩ := fn_div1 n.natAbs g m w hm hw hn hg0 hg H
    obtain ⟨q2, r2, hq2, _, f2⟩ := fn_div1 d g k w hk hw hd hg0 hg H
    obtain ⟨p, hp, fp⟩ := fn_numMake (decide (n < 0)) (n.natAbs / g) q1 hq1 (by have := Nat.div_le_self n.natAbs g; omega) H
    generalize hz : (if decide (n < 0) = true then -((n.natAbs / g : Nat) : Int) else ((n.natAbs / g : Nat) : Int)) = z at hp
    have hzn : n = z * g := by
      have h1 : n.natAbs / g * g = n.natAbs := Nat.div_mul_cancel hgn
      have h2 : ((n.natAbs / g : Nat) : Int) * (g : Int) = (n.natAbs : Int) := by rw [← Int.natCast_mul, h1]
      rw [← hz]
      by_cases h : n < 0
      · simp only [h, decide_true, if_true, Int.neg_mul, h2]; omega
      · simp only [h, decide_false, Bool.false_eq_true, if_false, h2]; omega
    have hdg : d / g * g = d := Nat.div_mul_cancel hgd
    obtain ⟨pm, rfl, hpm⟩ := hp
    refine awp_seq_sw ?_
    repeat first | refine swV (fun _ => rfl) ?_ | refine sw_l (fun _ => rfl) trivial ?_ | refine sw_ln (fun _ => rfl) ⟨rfl, leB rfl⟩ ?_ | refine sw_vg rfl (fun _ => rfl) trivial ?_ | refine sw_sk rfl rfl ?_
    refine sw_call rfl f1 ?_
    repeat first | refine swV (fun _ => rfl) ?_ | refine sw_l (fun _ => rfl) trivial ?_ | refine sw_ln (fun _ => rfl) ⟨rfl, leB rfl⟩ ?_ | refine sw_vg rfl (fun _ => rfl) trivial ?_ | refine sw_sk rfl rfl ?_
    refine SW.nil (awp_seq_sw ?_)
    repeat first | refine swV (fun _ => rfl) ?_ | refine sw_l (fun _ => rfl) trivial ?_ | refine sw_ln (fun _ => rfl) ⟨rfl, leB rfl⟩ ?_ | refine sw_vg rfl (fun _ => rfl) trivial ?_ | refine sw_sk rfl rfl ?_
    refine sw_call rfl f2 ?_
    repeat first | refine swV (fun _ => rfl) ?_ | refine sw_l (fun _ => rfl) trivial ?_ | refine sw_ln (fun _ => rfl) ⟨rfl, leB rfl⟩ ?_ | refine sw_vg rfl (fun _ => rfl) trivial ?_ | refine sw_sk rfl rfl ?_
    refine SW.nil (awp_seq_sw ?_)
    repeat first | refine swV (fun _ => rfl) ?_ | refine sw_l (fun _ => rfl) trivial ?_ | refine sw_ln (fun _ => rfl) ⟨rfl, leB rfl⟩ ?_ | refine sw_vg rfl (fun _ => rfl) trivial ?_ | refine sw_sk rfl rfl ?_
    refine sw_call rfl fp ?_
    repeat first | refine swV (fun _ => rfl) ?_ | refine sw_l (fun _ => rfl) trivial ?_ | refine sw_ln (fun _ => rfl) ⟨rfl, leB rfl⟩ ?_ | refine sw_vg rfl (fun _ => rfl) trivial ?_ | refine sw_sk rfl rfl ?_
    refine sw_v (bld_of [_, _, _] (fill_cons (l := [_, _]) rfl (num_imms hpm.sl).cells ⟨rfl, leB rfl⟩ rfl (fill_cons (l := [_]) rfl hq2.sl.cell ⟨rfl, leB rfl⟩ rfl fill_nil))) trivial ?_
    refine sw_ln (st_agg [_, _, _] rfl rfl (frac_imms hpm.sl hq2.sl) rfl rfl) ⟨rfl, leB rfl⟩ ?_
    refine SW.nil (awp_ret ?_)
    exact ⟨.inr rfl, _, rfl, ⟨z, d / g, g, hg0, hzn, hdg.symm, pm, q2, d / g, rfl, hpm, hq2, .inl rfl, Nat.div_pos (Nat.le_of_dvd h0 hgd) hg0⟩, rfl⟩
end Iso

/- Fractions: of whole numbers, products. -/
namespace Iso
open Go Go.Proofs
theorem big64 : B64 ≤ BIG := by decide +kernel
theorem IsFrac.at {n : Int} {d : Nat} {v : V} (h : FracAt n d v) : IsFrac n d v := ⟨n, d, 1, by decide, by omega, by omega, h⟩
theorem FracAt.imms {n : Int} {d : Nat} {v : V} (h : FracAt n d v) : ∃ cs, v = .agg cs ∧ cs.length = 3 ∧ Imms cs := by
  obtain ⟨m, k, e, rfl, hm, hk, _⟩ := h
  exact ⟨_, rfl, rfl, frac_imms hm.sl hk.sl⟩
/-- 'frac.below'. -/
theorem fn_below (n : Int) (d : Nat) (v : V) (hv : FracAt n d v) (hd : d < BIG * BIG) (H : AH) : ∃ w, IsNum d w ∧ FN Tryz.prog 65 [v] H w H := by
  refine fn_ex ?_
  obtain ⟨w, hw, fw⟩ := fn_den n d v hv hd H
  obtain ⟨m, k, e, rfl, hm, hk, _⟩ := hv
  refine fn_of cf65 (by simp) ?_
  show AWp _ _ _ ac65 _ _
  unfold ac65
  refine awp_seq_sw ?_
  refine sw_l (box_agg rfl (frac_imms hm.sl hk.sl) rfl) trivial ?_
  repeat first | refine swV (fun _ => rfl) ?_ | refine sw_l (fun _ => rfl) trivial ?_ | refine sw_ln (fun _ => rfl) ⟨rfl, leB rfl⟩ ?_ | refine sw_vg rfl (fun _ => rfl) trivial ?_ | refine sw_sk rfl rfl ?_
  refine SW.nil (awp_seq_sw ?_)
  refine sw_v (ld_agg [_, _, _] rfl rfl rfl (leB rfl)) trivial ?_
  refine sw_call rfl fw ?_
  refine sw_v (bld_of [.lit (.bool false), _] (fill_cons (l := [_]) rfl hw.sl.cell ⟨rfl, leB rfl⟩ rfl fill_nil)) trivial ?_
  refine sw_ln (st_agg [_, _] rfl rfl (num_imms hw.sl) rfl rfl) ⟨rfl, leB rfl⟩ ?_
  refine SW.nil (awp_ret ?_)
  refine ⟨.inr rfl, _, rfl, ⟨w, ?_, by simpa using hw⟩, rfl⟩
  rw [show decide ((d : Int) < 0) = false by simp]; rfl
/-- 'frac.Whole'. -/
theorem fn_whole (n : Int) (v : V) (hv : IsNum n v) (hn : n.natAbs < B64) (H : AH) : ∃ w, IsFrac n 1 w ∧ FN Tryz.prog 44 [v] H w H := by
  refine fn_ex ?_
  obtain ⟨w, hw, fw⟩ := fn_low n 1 v _ hv mag_one hn (by decide) (by decide) H
  obtain ⟨m, rfl, hm⟩ := hv
  obtain ⟨_, _, _, _, _, _, hat⟩ := id hw
  obtain ⟨cs, rfl, hl, hc⟩ := hat.imms
  refine fn_of cf44 (by simp) ?_
  show AWp _ _ _ ac44 _ _
  unfold ac44
  refine awp_seq_sw ?_
  refine sw_l (box_agg rfl (num_imms hm.sl) rfl) trivial ?_
  repeat first | refine swV (fun _ => rfl) ?_ | refine sw_l (fun _ => rfl) trivial ?_ | refine sw_ln (fun _ => rfl) ⟨rfl, leB rfl⟩ ?_ | refine sw_vg rfl (fun _ => rfl) trivial ?_ | refine sw_sk rfl rfl ?_
  refine SW.nil (awp_seq_rw hmix ?_)
  refine rw_v' (ld_agg [_, _] rfl rfl rfl (leB rfl)) trivial ?_
  refine rw_call' rfl (fn_one H) ?_
  refine rw_call' rfl fw ?_
  obtain ⟨c1, c2, c3, rfl⟩ : ∃ a b c, cs = [a, b, c] := by
    match cs, hl with
    | [a, b, c], _ => exact ⟨a, b, c, rfl⟩
  refine rw_ln' (st_agg [_, _, _] rfl rfl hc rfl rfl) ⟨rfl, leB rfl⟩ ?_
  refine RW.nil ⟨rfl, awp_ret ?_⟩
  exact ⟨.inr rfl, _, rfl, hw, rfl⟩
/-- 'frac.Of'. -/
theorem fn_fracOf (z : Int) (h1 : -9223372036854775808 ≤ z) (h2 : z < 9223372036854775808) (H : AH) : ∃ w, IsFrac z 1 w ∧ FN Tryz.prog 16 [.lit (.int .i64 z)] H w H := by
  refine fn_ex ?_
  obtain ⟨u, hu, fu⟩ := fn_numOf z h1 h2 H
  obtain ⟨w, hw, fw⟩ := fn_whole z u hu (by simp only [B64]; omega) H
  obtain ⟨_, _, _, _, _, _, hat⟩ := id hw
  obtain ⟨cs, rfl, hl, hc⟩ := hat.imms
  obtain ⟨c1, c2, c3, rfl⟩ : ∃ a b c, cs = [a, b, c] := by
    match cs, hl with
    | [a, b, c], _ => exact ⟨a, b, c, rfl⟩
  refine fn_of cf16 (by simp) ?_
  show AWp _ _ _ ac16 _ _
  unfold ac16
  refine awp_seq_sw ?_
  repeat first | refine swV (fun _ => rfl) ?_ | refine sw_l (fun _ => rfl) trivial ?_ | refine sw_ln (fun _ => rfl) ⟨rfl, leB rfl⟩ ?_ | refine sw_vg rfl (fun _ => rfl) trivial ?_ | refine sw_sk rfl rfl ?_
  refine SW.nil (awp_seq_sw ?_)
  repeat first | refine swV (fun _ => rfl) ?_ | refine sw_l (fun _ => rfl) trivial ?_ | refine sw_ln (fun _ => rfl) ⟨rfl, leB rfl⟩ ?_ | refine sw_vg rfl (fun _ => rfl) trivial ?_ | refine sw_sk rfl rfl ?_
  refine sw_call rfl fu ?_
  refine sw_call rfl fw ?_
  refine sw_ln (st_agg [_, _, _] rfl rfl hc rfl rfl) ⟨rfl, leB rfl⟩ ?_
  refine SW.nil (awp_ret ?_)
  exact ⟨.inr rfl, _, rfl, hw, rfl⟩
end Iso

/- Fractions: negatives, products, sums, differences. -/
namespace Iso
open Go Go.Proofs
theorem frac3 {n : Int} {d : Nat} {w : V} (h : IsFrac n d w) : ∃ a b c, w = .agg [a, b, c] ∧ Imms [a, b, c] := by
  obtain ⟨_, _, _, _, _, _, hat⟩ := h
  obtain ⟨cs, rfl, hl, hc⟩ := hat.imms
  match cs, hl, hc with
  | [a, b, c], _, hc => exact ⟨a, b, c, rfl, hc⟩
/-- 'frac.Neg'. -/
theorem fn_fracNeg (n : Int) (d : Nat) (v : V) (hv : FracAt n d v) (hn : n.natAbs < B64) (hd : d < B64) (H : AH) : ∃ w, IsFrac (-n) d w ∧ FN Tryz.prog 23 [v] H w H := by
  refine fn_ex ?_
  have hB : B64 ≤ BIG * BIG := by decide +kernel
  obtain ⟨k1, hk1, fk⟩ := fn_den n d v hv (by omega) H
  obtain ⟨m, k, e, rfl, hm, hk, he, h0⟩ := hv
  obtain ⟨p, hp, fp⟩ := fn_numNeg n (.agg [.lit (.bool (decide (n < 0))), m]) ⟨m, rfl, hm⟩ (by omega) H
  obtain ⟨w, hw, fw⟩ := fn_low (-n) d p k1 hp hk1 (by omega) h0 hd H
  obtain ⟨a, b, c, rfl, hc⟩ := frac3 hw
  refine fn_of cf23 (by simp) ?_
  show AWp _ _ _ ac23 _ _
  unfold ac23
  refine awp_seq_sw ?_
  refine sw_l (box_agg rfl (frac_imms hm.sl hk.sl) rfl) trivial ?_
  repeat first | refine swV (fun _ => rfl) ?_ | refine sw_l (fun _ => rfl) trivial ?_ | refine sw_ln (fun _ => rfl) ⟨rfl, leB rfl⟩ ?_ | refine sw_vg rfl (fun _ => rfl) trivial ?_ | refine sw_sk rfl rfl ?_
  refine SW.nil (awp_seq_rw hmix ?_)
  refine rw_v' (fun _ => rfl) trivial ?_
  refine rw_v' (ld_agg [_, _] rfl rfl rfl (leB rfl)) trivial ?_
  refine rw_call' rfl fp ?_
  refine rw_v' (ld_agg [_, _, _] rfl rfl rfl (leB rfl)) trivial ?_
  refine rw_call' rfl fk ?_
  refine rw_call' rfl fw ?_
  refine rw_ln' (st_agg [_, _, _] rfl rfl hc rfl rfl) ⟨rfl, leB rfl⟩ ?_
  refine RW.nil ⟨rfl, awp_ret ?_⟩
  exact ⟨.inr rfl, _, rfl, hw, rfl⟩
/-- 'frac.Mul'. -/
theorem fn_fracMul (n1 n2 : Int) (d1 d2 : Nat) (u v : V) (hu : FracAt n1 d1 u) (hv : FracAt n2 d2 v) (b1 : n1.natAbs < B64) (b2 : n2.natAbs < B64) (e1 : d1 < B64) (e2 : d2 < B64)
    (bn : (n1 * n2).natAbs < B64) (bd : d1 * d2 < B64) (H : AH) : ∃ w, IsFrac (n1 * n2) (d1 * d2) w ∧ FN Tryz.prog 24 [u, v] H w H := by
  refine fn_ex ?_
  have hB : B64 ≤ BIG * BIG := by decide +kernel
  have hB1 := big64
  obtain ⟨k1, hk1, fk1⟩ := fn_den n1 d1 u hu (by omega) H
  obtain ⟨k2, hk2, fk2⟩ := fn_den n2 d2 v hv (by omega) H
  obtain ⟨m, k, e, rfl, hm, hk, he, h0⟩ := hu
  obtain ⟨m', k', e', rfl, hm', hk', he', h0'⟩ := hv
  obtain ⟨p, hp, fp⟩ := fn_numMul n1 n2 (.agg [.lit (.bool (decide (n1 < 0))), m]) (.agg [.lit (.bool (decide (n2 < 0))), m']) ⟨m, rfl, hm⟩ ⟨m', rfl, hm'⟩ (by omega) (by omega) H
  obtain ⟨x1, y1, z1, t1, r1⟩ := id hk1
  obtain ⟨x2, y2, z2, t2, r2⟩ := id hk2
  obtain ⟨q, hq, fq⟩ := fn_mul x1 x2 k1 k2 y1 y2 z1 z2 (short t1 r1 (by omega)) (short t2 r2 (by omega)) H
  rw [r1, r2] at hq
  obtain ⟨w, hw, fw⟩ := fn_low (n1 * n2) (d1 * d2) p q hp hq bn (Nat.mul_pos h0 h0') bd H
  obtain ⟨a, b, c, rfl, hc⟩ := frac3 hw
  refine fn_of cf24 (by simp) ?_
  show AWp _ _ _ ac24 _ _
  unfold ac24
  refine awp_seq_sw ?_
  refine sw_l (box_agg rfl (frac_imms hm.sl hk.sl) rfl) trivial ?_
  refine sw_l (box_agg rfl (frac_imms hm'.sl hk'.sl) rfl) trivial ?_
  repeat first | refine swV (fun _ => rfl) ?_ | refine sw_l (fun _ => rfl) trivial ?_ | refine sw_ln (fun _ => rfl) ⟨rfl, leB rfl⟩ ?_ | refine sw_vg rfl (fun _ => rfl) trivial ?_ | refine sw_sk rfl rfl ?_
  refine SW.nil (awp_seq_rw hmix ?_)
  refine rw_v' (fun _ => rfl) trivial ?_
  refine rw_v' (ld_agg [_, _] rfl rfl rfl (leB rfl)) trivial ?_
  refine rw_v' (fun _ => rfl) trivial ?_
  refine rw_v' (ld_agg [_, _] rfl rfl rfl (leB rfl)) trivial ?_
  refine rw_call' rfl fp ?_
  refine rw_v' (ld_agg [_, _, _] rfl rfl rfl (leB rfl)) trivial ?_
  refine rw_call' rfl fk1 ?_
  refine rw_v' (ld_agg [_, _, _] rfl rfl rfl (leB rfl)) trivial ?_
  refine rw_call' rfl fk2 ?_
  refine rw_call' rfl fq ?_
  refine rw_call' rfl fw ?_
  refine rw_ln' (st_agg [_, _, _] rfl rfl hc rfl rfl) ⟨rfl, leB rfl⟩ ?_
  refine RW.nil ⟨rfl, awp_ret ?_⟩
  exact ⟨.inr rfl, _, rfl, hw, rfl⟩
/-- 'frac.Add'. -/
theorem fn_fracAdd (n1 n2 : Int) (d1 d2 : Nat) (u v : V) (hu : FracAt n1 d1 u) (hv : FracAt n2 d2 v) (b1 : n1.natAbs < B64) (b2 : n2.natAbs < B64) (e1 : d1 < B64) (e2 : d2 < B64)
    (c1 : (n1 * d2).natAbs < B64) (c2 : (n2 * d1).natAbs < B64) (bn : (n1 * d2 + n2 * d1).natAbs < B64) (bd : d1 * d2 < B64) (H : AH) : ∃ w, IsFrac (n1 * d2 + n2 * d1) (d1 * d2) w ∧ FN Tryz.prog 26 [u, v] H w H := by
  refine fn_ex ?_
  have hB : B64 + B64 ≤ BIG * BIG := by decide +kernel
  have hB1 := big64
  obtain ⟨k1, hk1, fk1⟩ := fn_den n1 d1 u hu (by omega) H
  obtain ⟨k2, hk2, fk2⟩ := fn_den n2 d2 v hv (by omega) H
  obtain ⟨l1, hl1, fl1⟩ := fn_below n1 d1 u hu (by omega) H
  obtain ⟨l2, hl2, fl2⟩ := fn_below n2 d2 v hv (by omega) H
  obtain ⟨m, k, e, rfl, hm, hk, he, h0⟩ := hu
  obtain ⟨m', k', e', rfl, hm', hk', he', h0'⟩ := hv
  obtain ⟨p1, hp1, fp1⟩ := fn_numMul n1 d2 (.agg [.lit (.bool (decide (n1 < 0))), m]) l2 ⟨m, rfl, hm⟩ hl2 (by omega) (by omega) H
  obtain ⟨p2, hp2, fp2⟩ := fn_numMul n2 d1 (.agg [.lit (.bool (decide (n2 < 0))), m']) l1 ⟨m', rfl, hm'⟩ hl1 (by omega) (by omega) H
  obtain ⟨p, hp, fp⟩ := fn_numAdd (n1 * d2) (n2 * d1) p1 p2 hp1 hp2 (by omega) (by omega) (by omega) H
  obtain ⟨x1, y1, z1, t1, r1⟩ := id hk1
  obtain ⟨x2, y2, z2, t2, r2⟩ := id hk2
  obtain ⟨q, hq, fq⟩ := fn_mul x1 x2 k1 k2 y1 y2 z1 z2 (short t1 r1 (by omega)) (short t2 r2 (by omega)) H
  rw [r1, r2] at hq
  obtain ⟨w, hw, fw⟩ := fn_low (n1 * d2 + n2 * d1) (d1 * d2) p q hp hq bn (Nat.mul_pos h0 h0') bd H
  obtain ⟨a, b, c, rfl, hc⟩ := frac3 hw
  obtain ⟨pm, rfl, hpm⟩ := hp
  refine fn_of cf26 (by simp) ?_
  show AWp _ _ _ ac26 _ _
  unfold ac26
  refine awp_seq_sw ?_
  refine sw_l (box_agg rfl (frac_imms hm.sl hk.sl) rfl) trivial ?_
  refine sw_l (box_agg rfl (frac_imms hm'.sl hk'.sl) rfl) trivial ?_
  repeat first | refine swV (fun _ => rfl) ?_ | refine sw_l (fun _ => rfl) trivial ?_ | refine sw_ln (fun _ => rfl) ⟨rfl, leB rfl⟩ ?_ | refine sw_vg rfl (fun _ => rfl) trivial ?_ | refine sw_sk rfl rfl ?_
  refine SW.nil (awp_seq_rw hmix ?_)
  refine rw_v' (fun _ => rfl) trivial ?_
  refine rw_v' (ld_agg [_, _] rfl rfl rfl (leB rfl)) trivial ?_
  refine rw_v' (ld_agg [_, _, _] rfl rfl rfl (leB rfl)) trivial ?_
  refine rw_call' rfl fl2 ?_
  refine rw_call' rfl fp1 ?_
  refine rw_v' (fun _ => rfl) trivial ?_
  refine rw_v' (ld_agg [_, _] rfl rfl rfl (leB rfl)) trivial ?_
  refine rw_v' (ld_agg [_, _, _] rfl rfl rfl (leB rfl)) trivial ?_
  refine rw_call' rfl fl1 ?_
  refine rw_call' rfl fp2 ?_
  refine rw_call' rfl fp ?_
  repeat first | refine rw_v' (fun _ => rfl) trivial ?_ | refine rw_l' (fun _ => rfl) trivial ?_ | refine rw_ln' (fun _ => rfl) ⟨rfl, leB rfl⟩ ?_ | refine rw_vg' rfl (fun _ => rfl) trivial ?_ | refine rw_sk' rfl rfl ?_
  refine rw_ln' (st_agg [_, _] rfl rfl (num_imms hpm.sl) rfl rfl) ⟨rfl, leB rfl⟩ ?_
  refine RW.nil ⟨rfl, awp_seq_rw hmix ?_⟩
  refine rw_v' (ld_agg [_, _] rfl rfl rfl (leB rfl)) trivial ?_
  refine rw_v' (ld_agg [_, _, _] rfl rfl rfl (leB rfl)) trivial ?_
  refine rw_call' rfl fk1 ?_
  refine rw_v' (ld_agg [_, _, _] rfl rfl rfl (leB rfl)) trivial ?_
  refine rw_call' rfl fk2 ?_
  refine rw_call' rfl fq ?_
  refine rw_call' rfl fw ?_
  refine rw_ln' (st_agg [_, _, _] rfl rfl hc rfl rfl) ⟨rfl, leB rfl⟩ ?_
  refine RW.nil ⟨rfl, awp_ret ?_⟩
  exact ⟨.inr rfl, _, rfl, hw, rfl⟩
end Iso

/- Fractions: up to common factors. -/
namespace Iso
open Go Go.Proofs
theorem IsFrac.scale {n : Int} {d g : Nat} {v : V} (h : IsFrac n d v) (hg : 0 < g) : IsFrac (n * g) (d * g) v := by
  obtain ⟨n', d', k, hk, h1, h2, h3⟩ := h
  exact ⟨n', d', k * g, Nat.mul_pos hk hg, by rw [h1, Int.natCast_mul, Int.mul_assoc], by rw [h2, Nat.mul_assoc], h3⟩
theorem IsFrac.open {n : Int} {d : Nat} {v : V} (h : IsFrac n d v) : ∃ (n' : Int) (d' g : Nat), 0 < g ∧ n = n' * g ∧ d = d' * g ∧ FracAt n' d' v ∧ 0 < d' ∧ n'.natAbs ≤ n.natAbs ∧ d' ≤ d := by
  obtain ⟨n', d', g, hg, h1, h2, h3⟩ := h
  obtain ⟨_, _, _, _, _, _, _, h0⟩ := id h3
  refine ⟨n', d', g, hg, h1, h2, h3, h0, ?_, ?_⟩
  · rw [h1, Int.natAbs_mul, Int.natAbs_natCast]; exact Nat.le_mul_of_pos_right _ hg
  · rw [h2]; exact Nat.le_mul_of_pos_right _ hg
theorem mul_bound {x y : Int} {a b : Nat} (h : x.natAbs ≤ a) (k : y.natAbs ≤ b) : (x * y).natAbs ≤ a * b := by
  rw [Int.natAbs_mul]; exact Nat.mul_le_mul h k
/-- 'frac.Mul', of whatever the fractions stand for. -/
theorem fn_fmul {n1 n2 : Int} {d1 d2 : Nat} {u v : V} (a1 a2 e1 e2 : Nat) (hu : IsFrac n1 d1 u) (hv : IsFrac n2 d2 v) (b1 : n1.natAbs ≤ a1) (b2 : n2.natAbs ≤ a2) (c1 : d1 ≤ e1) (c2 : d2 ≤ e2)
    (l1 : a1 < B64) (l2 : a2 < B64) (l3 : e1 < B64) (l4 : e2 < B64) (l5 : a1 * a2 < B64) (l6 : e1 * e2 < B64) (H : AH) : ∃ w, IsFrac (n1 * n2) (d1 * d2) w ∧ FN Tryz.prog 24 [u, v] H w H := by
  obtain ⟨m1, f1, g1, hg1, p1, q1, r1, _, s1, t1⟩ := hu.open
  obtain ⟨m2, f2, g2, hg2, p2, q2, r2, _, s2, t2⟩ := hv.open
  have h1 := mul_bound (Nat.le_trans s1 b1) (Nat.le_trans s2 b2)
  have h2 := Nat.mul_le_mul (Nat.le_trans t1 c1) (Nat.le_trans t2 c2)
  obtain ⟨w, hw, fw⟩ := fn_fracMul m1 m2 f1 f2 u v r1 r2 (by omega) (by omega) (by omega) (by omega) (by omega) (by omega) H
  refine ⟨w, ?_, fw⟩
  have := hw.scale (Nat.mul_pos hg1 hg2)
  rw [p1, p2, q1, q2]
  have e1 : m1 * ↑g1 * (m2 * ↑g2) = m1 * m2 * ((g1 * g2 : Nat) : Int) := by rw [Int.natCast_mul]; grind
  have e2 : f1 * g1 * (f2 * g2) = f1 * f2 * (g1 * g2) := by grind
  rw [e1, e2]; exact this
/-- 'frac.Add', of whatever the fractions stand for. -/
theorem fn_fadd {n1 n2 : Int} {d1 d2 : Nat} {u v : V} (a1 a2 e1 e2 : Nat) (hu : IsFrac n1 d1 u) (hv : IsFrac n2 d2 v) (b1 : n1.natAbs ≤ a1) (b2 : n2.natAbs ≤ a2) (c1 : d1 ≤ e1) (c2 : d2 ≤ e2)
    (l1 : a1 < B64) (l2 : a2 < B64) (l3 : e1 < B64) (l4 : e2 < B64) (l5 : a1 * e2 + a2 * e1 < B64) (l6 : e1 * e2 < B64) (H : AH) : ∃ w, IsFrac (n1 * d2 + n2 * d1) (d1 * d2) w ∧ FN Tryz.prog 26 [u, v] H w H := by
  obtain ⟨m1, f1, g1, hg1, p1, q1, r1, _, s1, t1⟩ := hu.open
  obtain ⟨m2, f2, g2, hg2, p2, q2, r2, _, s2, t2⟩ := hv.open
  have h1 := mul_bound (y := (f2 : Int)) (Nat.le_trans s1 b1) (by rw [Int.natAbs_natCast]; exact Nat.le_trans t2 c2)
  have h3 := mul_bound (y := (f1 : Int)) (Nat.le_trans s2 b2) (by rw [Int.natAbs_natCast]; exact Nat.le_trans t1 c1)
  have h2 := Nat.mul_le_mul (Nat.le_trans t1 c1) (Nat.le_trans t2 c2)
  obtain ⟨w, hw, fw⟩ := fn_fracAdd m1 m2 f1 f2 u v r1 r2 (by omega) (by omega) (by omega) (by omega) (by omega) (by omega) (by omega) (by omega) H
  refine ⟨w, ?_, fw⟩
  have := hw.scale (Nat.mul_pos hg1 hg2)
  rw [p1, p2, q1, q2]
  have e1 : m1 * ↑g1 * ((f2 * g2 : Nat) : Int) + m2 * ↑g2 * ((f1 * g1 : Nat) : Int) = (m1 * f2 + m2 * f1) * ((g1 * g2 : Nat) : Int) := by
    rw [Int.natCast_mul, Int.natCast_mul, Int.natCast_mul]; grind
  have e2 : f1 * g1 * (f2 * g2) = f1 * f2 * (g1 * g2) := by grind
  rw [e1, e2]; exact this
/-- 'frac.Neg', of whatever the fraction stands for. -/
theorem fn_fneg {n : Int} {d : Nat} {v : V} (hv : IsFrac n d v) (hn : n.natAbs < B64) (hd : d < B64) (H : AH) : ∃ w, IsFrac (-n) d w ∧ FN Tryz.prog 23 [v] H w H := by
  obtain ⟨m1, f1, g1, hg1, p1, q1, r1, _, s1, t1⟩ := hv.open
  obtain ⟨w, hw, fw⟩ := fn_fracNeg m1 f1 v r1 (by omega) (by omega) H
  refine ⟨w, ?_, fw⟩
  have := hw.scale hg1
  rw [p1, q1, show -(m1 * (g1 : Int)) = -m1 * g1 by grind]; exact this
end Iso

/- Fractions: differences, signs. -/
namespace Iso
open Go Go.Proofs
theorem IsFrac.three {n : Int} {d : Nat} {v : V} (h : IsFrac n d v) : ∃ a b c, v = .agg [a, b, c] ∧ Imms [a, b, c] := frac3 h
/-- 'frac.Sub'. -/
theorem fn_fsub {n1 n2 : Int} {d1 d2 : Nat} {u v : V} (a1 a2 e1 e2 : Nat) (hu : IsFrac n1 d1 u) (hv : IsFrac n2 d2 v) (b1 : n1.natAbs ≤ a1) (b2 : n2.natAbs ≤ a2) (c1 : d1 ≤ e1) (c2 : d2 ≤ e2)
    (l1 : a1 < B64) (l2 : a2 < B64) (l3 : e1 < B64) (l4 : e2 < B64) (l5 : a1 * e2 + a2 * e1 < B64) (l6 : e1 * e2 < B64) (H : AH) : ∃ w, IsFrac (n1 * d2 - n2 * d1) (d1 * d2) w ∧ FN Tryz.prog 22 [u, v] H w H := by
  refine fn_ex ?_
  obtain ⟨p, hp, fp⟩ := fn_fneg hv (by omega) (by omega) H
  obtain ⟨w, hw, fw⟩ := fn_fadd a1 a2 e1 e2 hu hp b1 (by rw [Int.natAbs_neg]; exact b2) c1 c2 l1 l2 l3 l4 l5 l6 H
  rw [show n1 * (d2 : Int) + -n2 * (d1 : Int) = n1 * d2 - n2 * d1 by grind] at hw
  obtain ⟨_, _, _, rfl, iu⟩ := hu.three
  obtain ⟨_, _, _, rfl, iv⟩ := hv.three
  obtain ⟨_, _, _, rfl, iw⟩ := hw.three
  refine fn_of cf22 (by simp) ?_
  show AWp _ _ _ ac22 _ _
  unfold ac22
  refine awp_seq_sw ?_
  refine sw_l (box_agg rfl iu rfl) trivial ?_
  refine sw_l (box_agg rfl iv rfl) trivial ?_
  repeat first | refine swV (fun _ => rfl) ?_ | refine sw_l (fun _ => rfl) trivial ?_ | refine sw_ln (fun _ => rfl) ⟨rfl, leB rfl⟩ ?_ | refine sw_vg rfl (fun _ => rfl) trivial ?_ | refine sw_sk rfl rfl ?_
  refine SW.nil (awp_seq_rw hmix ?_)
  refine rw_v' (ld_agg [_, _, _] rfl rfl rfl (leB rfl)) trivial ?_
  refine rw_v' (ld_agg [_, _, _] rfl rfl rfl (leB rfl)) trivial ?_
  refine rw_call' rfl fp ?_
  refine rw_call' rfl fw ?_
  refine rw_ln' (st_agg [_, _, _] rfl rfl iw rfl rfl) ⟨rfl, leB rfl⟩ ?_
  refine RW.nil ⟨rfl, awp_ret ?_⟩
  exact ⟨.inr rfl, _, rfl, hw, rfl⟩
theorem sgn_mul (z : Int) {g : Nat} (hg : 0 < g) : sgn (z * g) = sgn z := by
  have h1 : z < 0 → z * (g : Int) < 0 := fun h => Int.mul_neg_of_neg_of_pos h (by omega)
  have h2 : 0 < z → 0 < z * (g : Int) := fun h => Int.mul_pos h (by omega)
  unfold sgn
  rcases Int.lt_trichotomy z 0 with h | h | h
  · rw [if_pos h, if_pos (h1 h)]
  · subst h; simp
  · have := h2 h; rw [if_neg (by omega), if_neg (by omega), if_neg (by omega), if_neg (by omega)]
/-- 'frac.Sign'. -/
theorem fn_fsign {n : Int} {d : Nat} {v : V} (hv : IsFrac n d v) (hn : n.natAbs < B64) (H : AH) : FN Tryz.prog 27 [v] H (.lit (.int .i64 (sgn n))) H := by
  suffices h : ∃ v' H', FN Tryz.prog 27 [v] H v' H' ∧ (v' = .lit (.int .i64 (sgn n)) ∧ H' = H) by
    obtain ⟨v', H', h1, rfl, rfl⟩ := h; exact h1
  have hB : B64 ≤ BIG * BIG := by decide +kernel
  obtain ⟨m1, f1, g1, hg1, p1, q1, r1, _, s1, t1⟩ := hv.open
  obtain ⟨m, k, e, rfl, hm, hk, he, h0⟩ := r1
  have fs := fn_numSign m1 (.agg [.lit (.bool (decide (m1 < 0))), m]) ⟨m, rfl, hm⟩ (by omega) H
  refine fn_of cf27 (by simp) ?_
  show AWp _ _ _ ac27 _ _
  unfold ac27
  refine awp_seq_sw ?_
  refine sw_l (box_agg rfl (frac_imms hm.sl hk.sl) rfl) trivial ?_
  repeat first | refine swV (fun _ => rfl) ?_ | refine sw_l (fun _ => rfl) trivial ?_ | refine sw_ln (fun _ => rfl) ⟨rfl, leB rfl⟩ ?_ | refine sw_vg rfl (fun _ => rfl) trivial ?_ | refine sw_sk rfl rfl ?_
  refine SW.nil (awp_seq_sw ?_)
  refine swV (fun _ => rfl) ?_
  refine sw_v (ld_agg [_, _] rfl rfl rfl (leB rfl)) trivial ?_
  refine sw_call rfl fs ?_
  repeat first | refine swV (fun _ => rfl) ?_ | refine sw_l (fun _ => rfl) trivial ?_ | refine sw_ln (fun _ => rfl) ⟨rfl, leB rfl⟩ ?_ | refine sw_vg rfl (fun _ => rfl) trivial ?_ | refine sw_sk rfl rfl ?_
  refine SW.nil (awp_ret ?_)
  exact ⟨.inr rfl, _, rfl, by rw [p1, sgn_mul m1 hg1]; rfl, rfl⟩
end Iso

/- Comparing whole numbers with a sign. -/
namespace Iso
open Go Go.Proofs
def cmpZ (x y : Int) : Int := if x < y then -1 else if y < x then 1 else 0
theorem cmp_same {x y : Int} (h : sgn x = sgn y) : sgn x * cmpI x.natAbs y.natAbs = cmpZ x y := by
  unfold sgn at *
  unfold cmpI cmpZ
  by_cases h1 : x < 0
  · have h2 : y < 0 := by
      rcases Int.lt_trichotomy y 0 with h2 | h2 | h2
      · exact h2
      · rw [if_pos h1, if_neg (by omega), if_pos h2] at h; omega
      · rw [if_pos h1, if_neg (by omega), if_neg (by omega)] at h; omega
    rw [if_pos h1]
    (repeat' split) <;> omega
  · rw [if_neg h1] at h ⊢
    by_cases h3 : x = 0
    · rw [if_pos h3] at h ⊢
      have h2 : y = 0 := by (repeat' split at h) <;> omega
      subst h2 h3; rfl
    · rw [if_neg h3] at h ⊢
      have h2 : 0 < y := by (repeat' split at h) <;> omega
      (repeat' split) <;> omega
theorem sgn_cases (x : Int) : sgn x = -1 ∨ sgn x = 0 ∨ sgn x = 1 := by unfold sgn; (repeat' split) <;> simp
theorem sgn_lt {x y : Int} (h : sgn x < sgn y) : cmpZ x y = -1 := by
  have : x < y := by
    unfold sgn at h
    (repeat' split at h) <;> omega
  simp [cmpZ, this]
theorem sgn_gt {x y : Int} (h : sgn y < sgn x) : cmpZ x y = 1 := by
  have : y < x := by
    unfold sgn at h
    (repeat' split at h) <;> omega
  simp only [cmpZ]; rw [if_neg (by omega), if_pos this]
/-- 'num.Cmp'. -/
theorem fn_numCmp (x y : Int) (u v : V) (hu : IsNum x u) (hv : IsNum y v) (bx : x.natAbs < BIG * BIG) (by_ : y.natAbs < BIG * BIG) (H : AH) : FN Tryz.prog 80 [u, v] H (.lit (.int .i64 (cmpZ x y))) H := by
  suffices h : ∃ v' H', FN Tryz.prog 80 [u, v] H v' H' ∧ (v' = .lit (.int .i64 (cmpZ x y)) ∧ H' = H) by
    obtain ⟨v', H', h1, rfl, rfl⟩ := h; exact h1
  have f1 := fn_numSign x u hu bx H
  have f2 := fn_numSign y v hv by_ H
  obtain ⟨m, rfl, hm⟩ := hu
  obtain ⟨k, rfl, hk⟩ := hv
  obtain ⟨ds, ms, md, mt, mv⟩ := id hm
  obtain ⟨es, ks, kd, kt, kv⟩ := id hk
  have fc := fn_cmp ds es m k ms ks md kd (by have := short mt mv bx; omega) (by have := short kt kv by_; omega) H
  rw [mv, kv] at fc
  refine fn_of cf80 (by simp) ?_
  show AWp _ _ _ ac80 _ _
  unfold ac80
  refine awp_seq_sw ?_
  refine sw_l (box_agg rfl (num_imms hm.sl) rfl) trivial ?_
  refine sw_l (box_agg rfl (num_imms hk.sl) rfl) trivial ?_
  repeat first | refine swV (fun _ => rfl) ?_ | refine sw_l (fun _ => rfl) trivial ?_ | refine sw_ln (fun _ => rfl) ⟨rfl, leB rfl⟩ ?_ | refine sw_vg rfl (fun _ => rfl) trivial ?_ | refine sw_sk rfl rfl ?_
  refine SW.nil (awp_seq_rw hmix ?_)
  refine rw_v' (ld_agg [_, _] rfl rfl rfl (leB rfl)) trivial ?_
  refine rw_call' rfl f1 ?_
  refine rw_v' (ld_agg [_, _] rfl rfl rfl (leB rfl)) trivial ?_
  refine rw_call' rfl f2 ?_
  repeat first | refine rw_v' (fun _ => rfl) trivial ?_ | refine rw_l' (fun _ => rfl) trivial ?_ | refine rw_ln' (fun _ => rfl) ⟨rfl, leB rfl⟩ ?_ | refine rw_vg' rfl (fun _ => rfl) trivial ?_ | refine rw_sk' rfl rfl ?_
  refine RW.nil ⟨rfl, awp_seq (awp_block ?_)⟩
  refine awp_seq_sw ?_
  repeat first | refine swV (fun _ => rfl) ?_ | refine sw_l (fun _ => rfl) trivial ?_ | refine sw_ln (fun _ => rfl) ⟨rfl, leB rfl⟩ ?_ | refine sw_vg rfl (fun _ => rfl) trivial ?_ | refine sw_sk rfl rfl ?_
  refine SW.nil ?_
  refine awp_cond rfl (fun h => ?_) fun h => ?_
  · have h : sgn x < sgn y := by simpa using h
    refine awp_seq_sw ?_
    repeat first | refine swV (fun _ => rfl) ?_ | refine sw_l (fun _ => rfl) trivial ?_ | refine sw_ln (fun _ => rfl) ⟨rfl, leB rfl⟩ ?_ | refine sw_vg rfl (fun _ => rfl) trivial ?_ | refine sw_sk rfl rfl ?_
    refine SW.nil (awp_ret ?_)
    exact ⟨.inr rfl, _, rfl, by rw [sgn_lt h]; rfl, rfl⟩
  · have h1 : ¬ sgn x < sgn y := by simpa using h
    refine awp_seq_sw ?_
    repeat first | refine swV (fun _ => rfl) ?_ | refine sw_l (fun _ => rfl) trivial ?_ | refine sw_ln (fun _ => rfl) ⟨rfl, leB rfl⟩ ?_ | refine sw_vg rfl (fun _ => rfl) trivial ?_ | refine sw_sk rfl rfl ?_
    refine SW.nil ?_
    refine awp_cond rfl (fun h => ?_) fun h => awp_skip ?_
    · have h : sgn y < sgn x := by simpa using h
      refine awp_seq_sw ?_
      repeat first | refine swV (fun _ => rfl) ?_ | refine sw_l (fun _ => rfl) trivial ?_ | refine sw_ln (fun _ => rfl) ⟨rfl, leB rfl⟩ ?_ | refine sw_vg rfl (fun _ => rfl) trivial ?_ | refine sw_sk rfl rfl ?_
      refine SW.nil (awp_ret ?_)
      exact ⟨.inr rfl, _, rfl, by rw [sgn_gt h]; rfl, rfl⟩
    · have h2 : ¬ sgn y < sgn x := by simpa using h
      have he : sgn x = sgn y := by omega
      show AWp _ _ _ _ _ _
      refine awp_seq_sw ?_
      repeat first | refine swV (fun _ => rfl) ?_ | refine sw_l (fun _ => rfl) trivial ?_ | refine sw_ln (fun _ => rfl) ⟨rfl, leB rfl⟩ ?_ | refine sw_vg rfl (fun _ => rfl) trivial ?_ | refine sw_sk rfl rfl ?_
      refine sw_call rfl fc ?_
      repeat first | refine swV (fun _ => rfl) ?_ | refine sw_l (fun _ => rfl) trivial ?_ | refine sw_ln (fun _ => rfl) ⟨rfl, leB rfl⟩ ?_ | refine sw_vg rfl (fun _ => rfl) trivial ?_ | refine sw_sk rfl rfl ?_
      refine SW.nil (awp_ret ?_)
      refine ⟨.inr rfl, _, rfl, ?_, rfl⟩
      show V.lit (.int .i64 (IntKind.i64.wrap (sgn x * cmpI x.natAbs y.natAbs))) = _
      rw [cmp_same he, wrap_i64]
      · unfold cmpZ; (repeat' split) <;> omega
      · unfold cmpZ; (repeat' split) <;> omega
end Iso

/- A fraction out of two whole numbers. -/
namespace Iso
open Go Go.Proofs
/-- 'frac.Make', the lower one not nought. -/
theorem fn_fracMake (x y : Int) (u v : V) (hu : IsNum x u) (hv : IsNum y v) (bx : x.natAbs < B64) (by_ : y.natAbs < B64) (h0 : y ≠ 0) (H : AH) :
    ∃ w, IsFrac (if y < 0 then -x else x) y.natAbs w ∧ FN Tryz.prog 58 [u, v] H (.tup [w, .lit (.bool true)]) H := by
  suffices h : ∃ v' H', FN Tryz.prog 58 [u, v] H v' H' ∧ ((∃ w, v' = .tup [w, .lit (.bool true)] ∧ IsFrac (if y < 0 then -x else x) y.natAbs w) ∧ H' = H) by
    obtain ⟨v', H', h1, ⟨w, rfl, hw⟩, rfl⟩ := h; exact ⟨w, hw, h1⟩
  have hB : B64 ≤ BIG * BIG := by decide +kernel
  have fs := fn_numSign y v hv (by omega) H
  obtain ⟨m, rfl, hm⟩ := hu
  obtain ⟨k, rfl, hk⟩ := hv
  obtain ⟨p, hp, fp⟩ := fn_numMake (decide (x < 0) != decide (y < 0)) x.natAbs m hm (by omega) H
  have hp := hp.of_make (z := if y < 0 then -x else x) (by by_cases h1 : x < 0 <;> by_cases h2 : y < 0 <;> simp [h1, h2] <;> omega)
  obtain ⟨w, hw, fw⟩ := fn_low (if y < 0 then -x else x) y.natAbs p k hp hk (by split <;> omega) (by omega) by_ H
  obtain ⟨_, _, _, rfl, iw⟩ := hw.three
  refine fn_of cf58 (by simp) ?_
  show AWp _ _ _ ac58 _ _
  unfold ac58
  refine awp_seq_sw ?_
  refine sw_l (box_agg rfl (num_imms hm.sl) rfl) trivial ?_
  refine sw_l (box_agg rfl (num_imms hk.sl) rfl) trivial ?_
  repeat first | refine swV (fun _ => rfl) ?_ | refine sw_l (fun _ => rfl) trivial ?_ | refine sw_ln (fun _ => rfl) ⟨rfl, leB rfl⟩ ?_ | refine sw_vg rfl (fun _ => rfl) trivial ?_ | refine sw_sk rfl rfl ?_
  refine SW.nil (awp_seq_seq_sw ?_)
  refine sw_v (ld_agg [_, _] rfl rfl rfl (leB rfl)) trivial ?_
  refine sw_call rfl fs ?_
  repeat first | refine swV (fun _ => rfl) ?_ | refine sw_l (fun _ => rfl) trivial ?_ | refine sw_ln (fun _ => rfl) ⟨rfl, leB rfl⟩ ?_ | refine sw_vg rfl (fun _ => rfl) trivial ?_ | refine sw_sk rfl rfl ?_
  refine SW.nil ?_
  refine awp_cond rfl (fun h => ?_) fun h => awp_skip ?_
  · exfalso
    have h : sgn y = 0 := by simpa using h
    unfold sgn at h
    (repeat' split at h) <;> omega
  · refine awp_seq_rw hmix ?_
    repeat first | refine rw_v' (fun _ => rfl) trivial ?_ | refine rw_l' (fun _ => rfl) trivial ?_ | refine rw_ln' (fun _ => rfl) ⟨rfl, leB rfl⟩ ?_ | refine rw_vg' rfl (fun _ => rfl) trivial ?_ | refine rw_sk' rfl rfl ?_
    refine rw_call' rfl fp ?_
    repeat first | refine rw_v' (fun _ => rfl) trivial ?_ | refine rw_l' (fun _ => rfl) trivial ?_ | refine rw_ln' (fun _ => rfl) ⟨rfl, leB rfl⟩ ?_ | refine rw_vg' rfl (fun _ => rfl) trivial ?_ | refine rw_sk' rfl rfl ?_
    refine rw_call' rfl fw ?_
    refine rw_ln' (st_agg [_, _, _] rfl rfl iw rfl rfl) ⟨rfl, leB rfl⟩ ?_
    repeat first | refine rw_v' (fun _ => rfl) trivial ?_ | refine rw_l' (fun _ => rfl) trivial ?_ | refine rw_ln' (fun _ => rfl) ⟨rfl, leB rfl⟩ ?_ | refine rw_vg' rfl (fun _ => rfl) trivial ?_ | refine rw_sk' rfl rfl ?_
    refine RW.nil ⟨rfl, awp_ret ?_⟩
    exact ⟨.inr rfl, _, rfl, ⟨_, rfl, hw⟩, rfl⟩
end Iso

/- Dividing fractions. -/
namespace Iso
open Go Go.Proofs
/-- 'frac.Div', by what is not nought. -/
theorem fn_fracDiv (n1 n2 : Int) (d1 d2 : Nat) (u v : V) (hu : FracAt n1 d1 u) (hv : FracAt n2 d2 v) (b1 : n1.natAbs < B64) (b2 : n2.natAbs < B64) (e1 : d1 < B64) (e2 : d2 < B64)
    (c1 : (n1 * d2).natAbs < B64) (c2 : (n2 * d1).natAbs < B64) (h2 : n2 ≠ 0) (H : AH) : ∃ w, IsFrac (if n2 < 0 then -(n1 * d2) else n1 * d2) (n2 * d1).natAbs w ∧ FN Tryz.prog 33 [u, v] H (.tup [w, .lit (.bool true)]) H := by
  suffices h : ∃ v' H', FN Tryz.prog 33 [u, v] H v' H' ∧ ((∃ w, v' = .tup [w, .lit (.bool true)] ∧ IsFrac (if n2 < 0 then -(n1 * d2) else n1 * d2) (n2 * d1).natAbs w) ∧ H' = H) by
    obtain ⟨v', H', h1, ⟨w, rfl, hw⟩, rfl⟩ := h; exact ⟨w, hw, h1⟩
  have hB : B64 ≤ BIG * BIG := by decide +kernel
  have hB1 := big64
  obtain ⟨l1, hl1, fl1⟩ := fn_below n1 d1 u hu (by omega) H
  obtain ⟨l2, hl2, fl2⟩ := fn_below n2 d2 v hv (by omega) H
  obtain ⟨m, k, e, rfl, hm, hk, he, h0⟩ := hu
  obtain ⟨m', k', e', rfl, hm', hk', he', h0'⟩ := hv
  obtain ⟨p1, hp1, fp1⟩ := fn_numMul n1 d2 (.agg [.lit (.bool (decide (n1 < 0))), m]) l2 ⟨m, rfl, hm⟩ hl2 (by omega) (by omega) H
  obtain ⟨p2, hp2, fp2⟩ := fn_numMul n2 d1 (.agg [.lit (.bool (decide (n2 < 0))), m']) l1 ⟨m', rfl, hm'⟩ hl1 (by omega) (by omega) H
  have hd1 : (0 : Int) < d1 := by omega
  have hneg : n2 * (d1 : Int) < 0 ↔ n2 < 0 := ⟨fun h => Int.lt_of_not_ge fun hh => by have := Int.mul_nonneg hh (Int.le_of_lt hd1); omega, fun h => Int.mul_neg_of_neg_of_pos h hd1⟩
  obtain ⟨w, hw, fw⟩ := fn_fracMake (n1 * d2) (n2 * d1) p1 p2 hp1 hp2 c1 c2 (Int.mul_ne_zero h2 (by omega)) H
  simp only [hneg] at hw
  obtain ⟨_, _, _, rfl, iw⟩ := hw.three
  refine fn_of cf33 (by simp) ?_
  show AWp _ _ _ ac33 _ _
  unfold ac33
  refine awp_seq_sw ?_
  refine sw_l (box_agg rfl (frac_imms hm.sl hk.sl) rfl) trivial ?_
  refine sw_l (box_agg rfl (frac_imms hm'.sl hk'.sl) rfl) trivial ?_
  repeat first | refine swV (fun _ => rfl) ?_ | refine sw_l (fun _ => rfl) trivial ?_ | refine sw_ln (fun _ => rfl) ⟨rfl, leB rfl⟩ ?_ | refine sw_vg rfl (fun _ => rfl) trivial ?_ | refine sw_sk rfl rfl ?_
  refine SW.nil (awp_seq_rw hmix ?_)
  refine rw_v' (fun _ => rfl) trivial ?_
  refine rw_v' (ld_agg [_, _] rfl rfl rfl (leB rfl)) trivial ?_
  refine rw_v' (ld_agg [_, _, _] rfl rfl rfl (leB rfl)) trivial ?_
  refine rw_call' rfl fl2 ?_
  refine rw_call' rfl fp1 ?_
  refine rw_v' (fun _ => rfl) trivial ?_
  refine rw_v' (ld_agg [_, _] rfl rfl rfl (leB rfl)) trivial ?_
  refine rw_v' (ld_agg [_, _, _] rfl rfl rfl (leB rfl)) trivial ?_
  refine rw_call' rfl fl1 ?_
  refine rw_call' rfl fp2 ?_
  refine rw_call' rfl fw ?_
  refine rw_v' (fun _ => rfl) trivial ?_
  refine rw_v' (fun _ => rfl) trivial ?_
  refine rw_ln' (st_agg [_, _, _] rfl rfl iw rfl rfl) ⟨rfl, leB rfl⟩ ?_
  repeat first | refine rw_v' (fun _ => rfl) trivial ?_ | refine rw_l' (fun _ => rfl) trivial ?_ | refine rw_ln' (fun _ => rfl) ⟨rfl, leB rfl⟩ ?_ | refine rw_vg' rfl (fun _ => rfl) trivial ?_ | refine rw_sk' rfl rfl ?_
  refine RW.nil ⟨rfl, awp_ret ?_⟩
  exact ⟨.inr rfl, _, rfl, ⟨_, rfl, hw⟩, rfl⟩
end Iso

/- Dividing, up to factors. -/
namespace Iso
open Go Go.Proofs
/-- 'frac.Div', of whatever the fractions stand for. -/
theorem fn_fdiv {n1 n2 : Int} {d1 d2 : Nat} {u v : V} (a1 a2 e1 e2 : Nat) (hu : IsFrac n1 d1 u) (hv : IsFrac n2 d2 v) (b1 : n1.natAbs ≤ a1) (b2 : n2.natAbs ≤ a2) (c1 : d1 ≤ e1) (c2 : d2 ≤ e2)
    (l1 : a1 < B64) (l2 : a2 < B64) (l3 : e1 < B64) (l4 : e2 < B64) (l5 : a1 * e2 < B64) (l6 : a2 * e1 < B64) (h2 : 0 < n2) (H : AH) : ∃ w, IsFrac (n1 * d2) (n2.natAbs * d1) w ∧ FN Tryz.prog 33 [u, v] H (.tup [w, .lit (.bool true)]) H := by
  obtain ⟨m1, f1, g1, hg1, p1, q1, r1, _, s1, t1⟩ := hu.open
  obtain ⟨m2, f2, g2, hg2, p2, q2, r2, _, s2, t2⟩ := hv.open
  have k1 := mul_bound (y := (f2 : Int)) (Nat.le_trans s1 b1) (by rw [Int.natAbs_natCast]; exact Nat.le_trans t2 c2)
  have k2 := mul_bound (y := (f1 : Int)) (Nat.le_trans s2 b2) (by rw [Int.natAbs_natCast]; exact Nat.le_trans t1 c1)
  have hm : 0 < m2 := by
    rcases Int.lt_trichotomy m2 0 with h | h | h
    · have := Int.mul_neg_of_neg_of_pos h (show (0 : Int) < g2 by omega); omega
    · subst h; simp at p2; omega
    · exact h
  obtain ⟨w, hw, fw⟩ := fn_fracDiv m1 m2 f1 f2 u v r1 r2 (by omega) (by omega) (by omega) (by omega) (by omega) (by omega) (by omega) H
  rw [if_neg (by omega)] at hw
  refine ⟨w, ?_, fw⟩
  have := hw.scale (Nat.mul_pos hg1 hg2)
  rw [p1, p2, q1, q2]
  have e1 : m1 * ↑g1 * ((f2 * g2 : Nat) : Int) = m1 * f2 * ((g1 * g2 : Nat) : Int) := by rw [Int.natCast_mul, Int.natCast_mul]; grind
  have e2 : (m2 * (g2 : Int)).natAbs * (f1 * g1) = (m2 * (f1 : Int)).natAbs * (g1 * g2) := by
    rw [Int.natAbs_mul, Int.natAbs_mul, Int.natAbs_natCast, Int.natAbs_natCast]; grind
  rw [e1, e2]; exact this
end Iso
