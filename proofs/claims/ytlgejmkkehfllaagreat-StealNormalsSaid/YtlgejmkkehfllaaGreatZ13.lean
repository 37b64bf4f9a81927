import Derived.Test.YtlgejmkkehfllaaGreatZ12
import Derived.Test.YtlgejmkkehfllaaGreatZ9
import Derived.Test.YtlgejmkkehfllaaGreatZ5
import Derived.Test.YtlgejmkkehfllaaGreatZ8
/- Rows of shares; the order by which they are sorted. -/
namespace Iso
open Go Go.Proofs
/-- A share, as it lies in a slice: its point; its fraction's three cells. -/
structure Shr where
  v : Int
  a : V
  b : V
  c : V
def Shr.cs (s : Shr) : List V := [.lit (.int .i64 s.v), s.a, s.b, s.c]
def Shr.im (s : Shr) : Prop := Imms [s.a, s.b, s.c]
def shs : List Shr → List V
  | [] => []
  | s :: r => .lit (.int .i64 s.v) :: s.a :: s.b :: s.c :: shs r
theorem shs_cons (s : Shr) (r : List Shr) : shs (s :: r) = s.cs ++ shs r := rfl
theorem shs_length (l : List Shr) : (shs l).length = 4 * l.length := by
  induction l with
  | nil => rfl
  | cons s r ih => simp only [shs, List.length_cons, ih]; omega
theorem shs_append (l r : List Shr) : shs (l ++ r) = shs l ++ shs r := by
  induction l with
  | nil => rfl
  | cons s l ih => simp only [List.cons_append, shs, ih]
theorem shs_drop (l : List Shr) (j : Nat) : (shs l).drop (j * 4) = shs (l.drop j) := by
  induction l generalizing j with
  | nil => simp [shs]
  | cons s r ih =>
    cases j with
    | zero => rfl
    | succ j => rw [show (j + 1) * 4 = j * 4 + 4 by omega]; simp only [shs, List.drop_succ_cons, ih]
theorem Imms.app {a b : List V} (h : Imms a) (k : Imms b) : Imms (a ++ b) := fun H => by
  have h1 := h H
  have h2 := k H
  clear h k
  induction a with
  | nil => exact h2
  | cons x r ih =>
    simp only [V.ones, Bool.and_eq_true] at h1
    simp only [List.cons_append, V.ones, Bool.and_eq_true]
    exact ⟨h1.1, ih h1.2⟩
theorem Shr.ims {s : Shr} (h : s.im) : Imms s.cs := Imms.cons (imm_int _ _) h
theorem shs_imms {l : List Shr} (h : ∀ s ∈ l, s.im) : Imms (shs l) := by
  induction l with
  | nil => exact Imms.nil
  | cons s r ih => rw [shs_cons]; exact Imms.app (Shr.ims (h s (List.mem_cons_self ..))) (ih fun t ht => h t (List.mem_cons_of_mem _ ht))
theorem shs_splice {l : List Shr} {j : Nat} (h : j < l.length) (y : Shr) : splice (shs l) (j * 4) y.cs = shs (l.set j y) := by
  have h1 : (shs l).take (j * 4) = shs (l.take j) := by
    conv => lhs; rw [← List.take_append_drop j l, shs_append]
    exact List.take_left' (by rw [shs_length]; simp; omega)
  simp only [splice]
  rw [h1, show j * 4 + y.cs.length = (j + 1) * 4 by simp [Shr.cs]; omega, shs_drop, List.set_eq_take_append_cons_drop, if_pos h, shs_append, shs_cons, List.append_assoc]
section
variable {ev : Opd → T} {Lg : Nat → Option (List V)} {H : AH} {G : List Nat} {d : Option Nat} {x a i : Opd} {b n j : Nat}
theorem iad_sh {k : IntKind} (hx : ev x = .v (.hs b 0 n 4)) (hi : ev i = .v (.lit (.int k (j : Int)))) :
    ∀ H, aopE [] d (.iad 4 x i) ev Lg H = some ⟨0 ≤ (j : Int) ∧ (j : Int) < n ∧ 4 = 4, .v (.ptr b (j * 4)), {}⟩ := fun H => by
  simp only [aopE, hx, hi, Int.toNat_natCast, Nat.zero_add]
theorem ld_sh {l : List Shr} {s : Shr} (hx : ev x = .v (.ptr b (j * 4))) (hg : H.get b = some (.cells (shs l))) (hj : l[j]? = some s) :
    aopE G d (.ld true 4 x) ev Lg H = some ⟨True, .v (.agg s.cs), {}⟩ := by
  obtain ⟨h1, h2⟩ := List.getElem?_eq_some_iff.1 hj
  have h3 : l.drop j = s :: l.drop (j + 1) := by rw [← List.getElem_cons_drop h1, h2]
  simp only [aopE, hx, hg, rd, if_true]
  rw [shs_drop, h3, shs_cons, if_pos (by simp [Shr.cs])]
  rfl
theorem st_sh {l : List Shr} {s : Shr} (ha : ev a = .v (.ptr b (j * 4))) (hx : ev x = .v (.agg s.cs)) (hi : s.im) (hg : H.get b = some (.cells (shs l))) (hj : j < l.length) :
    aopE G d (.st 4 a x) ev Lg H = some ⟨s.cs.length = 4 ∧ j * 4 + 4 ≤ (shs l).length, .v .any, { heap := some (H.set b (.cells (shs (l.set j s)))) }⟩ := by
  simp only [aopE, hx, ha, hg, (Shr.ims hi).cells H, shs_splice hj]
end
/-- The closure of 'steal.Normal'. -/
theorem fn_less (s t : Shr) (hs : s.im) (ht : t.im) (h1 : 0 ≤ s.v) (h2 : s.v ≤ 1073741824) (h3 : 0 ≤ t.v) (h4 : t.v ≤ 1073741824) (H : AH) : FN Tryz.prog 68 [.agg s.cs, .agg t.cs] H (.lit (.int .i64 (s.v - t.v))) H := by
  suffices h : ∃ v' H', FN Tryz.prog 68 [.agg s.cs, .agg t.cs] H v' H' ∧ (v' = .lit (.int .i64 (s.v - t.v)) ∧ H' = H) by
    obtain ⟨v', H', h1, rfl, rfl⟩ := h; exact h1
  refine fn_of cf68 (by simp) ?_
  show AWp _ _ _ ac68 _ _
  unfold ac68
  refine awp_seq_sw ?_
  refine sw_l (box_agg rfl (Shr.ims hs) rfl) trivial ?_
  refine sw_l (box_agg rfl (Shr.ims ht) rfl) trivial ?_
  repeat first | refine swV (fun _ => rfl) ?_ | refine sw_l (fun _ => rfl) trivial ?_ | refine sw_ln (fun _ => rfl) ⟨rfl, leB rfl⟩ ?_ | refine sw_vg rfl (fun _ => rfl) trivial ?_ | refine sw_sk rfl rfl ?_
  refine SW.nil (awp_seq_sw ?_)
  repeat first | refine swV (fun _ => rfl) ?_ | refine sw_l (fun _ => rfl) trivial ?_ | refine sw_ln (fun _ => rfl) ⟨rfl, leB rfl⟩ ?_ | refine sw_vg rfl (fun _ => rfl) trivial ?_ | refine sw_sk rfl rfl ?_
  rw [show IntKind.i64.wrap (s.v - t.v) = s.v - t.v from by rw [wrap_i64] <;> omega]
  repeat first | refine swV (fun _ => rfl) ?_ | refine sw_l (fun _ => rfl) trivial ?_ | refine sw_ln (fun _ => rfl) ⟨rfl, leB rfl⟩ ?_ | refine sw_vg rfl (fun _ => rfl) trivial ?_ | refine sw_sk rfl rfl ?_
  refine SW.nil (awp_ret ?_)
  exact ⟨.inr rfl, _, rfl, rfl, rfl⟩
end Iso

/- Sorting shares by their points: slices.SortStableFunc, of few. -/
namespace Iso
open Go Go.Proofs
section
variable {P : Program} {l : Option Nat} {N : Nat} {A : Env} {L : Loc} {H : AH} {r : List CI}
theorem rw_callvg' {R : List It → St → Prop} {acc : List It} {d : Nat} {fo : Opd} {f : Nat} {caps : List V} {args : List Opd} {vs : List V} {v : V} {g : Nat} {want : Bool} (hg : A.get g = .v (.lit (.bool want))) (hfo : fo.ev A = .v (.fn f caps)) (hargs : evs A args = some vs) (hb : hasBody P f = true) (hf : FN P f (vs ++ caps) H v H)
    (k : RW P l N r (acc ++ [⟨some d, .v v, { tmps := g :: opdTmps (fo :: args), heap := true }, {}⟩]) R ⟨(d, .v v) :: A, L, H⟩) : RW P l N (⟨some d, some (g, want), .callv fo args⟩ :: r) acc R ⟨A, L, H⟩ :=
  RW.cons _ (good_guard hg (goodI_callv hfo hargs hb hf rfl)) k
end
def Sorted (l : List Shr) : Prop := l.Pairwise fun s t => s.v ≤ t.v
/-- Fit to be sorted. -/
def Shr.ok (s : Shr) : Prop := s.im ∧ 0 ≤ s.v ∧ s.v ≤ 1073741824
theorem mid_get (T : List Shr) (x : Shr) (R : List Shr) {j : Nat} (h : j ≤ T.length) : (T.take j ++ x :: (T.drop j ++ R))[j]? = some x := by
  rw [List.getElem?_append_right (by simp; omega)]
  simp [Nat.min_eq_left h]
theorem mid_prev (T : List Shr) (x : Shr) (R : List Shr) {j : Nat} (h : j + 1 ≤ T.length) : (T.take (j + 1) ++ x :: (T.drop (j + 1) ++ R))[j]? = some T[j] := by
  rw [List.getElem?_append_left (by simp; omega), List.getElem?_take_of_lt (by omega), List.getElem?_eq_getElem]
theorem mid_swap (T : List Shr) (x : Shr) (R : List Shr) {j : Nat} (h : j + 1 ≤ T.length) :
    ((T.take (j + 1) ++ x :: (T.drop (j + 1) ++ R)).set (j + 1) T[j]).set j x = T.take j ++ x :: (T.drop j ++ R) := by
  have h1 : T.take (j + 1) = T.take j ++ [T[j]] := by rw [List.take_add_one, List.getElem?_eq_getElem (by omega)]; rfl
  have h2 : T.drop j = T[j] :: T.drop (j + 1) := (List.getElem_cons_drop (by omega)).symm
  have h3 : (T.take j).length = j := by simp; omega
  rw [h1, h2]
  generalize T.take j = a at *
  generalize T[j] = y
  subst h3
  simp [List.set_append]
theorem hbq68 : hasBody Tryz.prog 68 = true := by kernel_rfl
end Iso

/- Sorting shares by their points: the insertion sort. -/
namespace Iso
open Go Go.Proofs
theorem Sorted.insert {T : List Shr} {x : Shr} {j : Nat} (hT : Sorted T) (hj : j ≤ T.length) (ha : ∀ s ∈ T.drop j, x.v < s.v) (hb : ∀ s, j ≠ 0 → T[j - 1]? = some s → s.v ≤ x.v) : Sorted (T.take j ++ x :: T.drop j) := by
  have h0 : Sorted (T.take j ++ T.drop j) := by rw [List.take_append_drop]; exact hT
  unfold Sorted at *
  rw [List.pairwise_append] at h0 ⊢
  obtain ⟨h1, h2, h3⟩ := h0
  have hp : ∀ s ∈ T.take j, s.v ≤ x.v := by
    intro s hs
    cases j with
    | zero => simp at hs
    | succ k =>
      have hk : k < T.length := by omega
      have hy := hb T[k] (by omega) (by simp [hk])
      rw [List.take_add_one, List.getElem?_eq_getElem hk] at hs h1
      rcases List.mem_append.1 hs with h | h
      · rw [List.pairwise_append] at h1
        have := h1.2.2 s h T[k] (by simp)
        omega
      · simp at h; subst h; exact hy
  refine ⟨h1, List.pairwise_cons.2 ⟨fun s hs => Int.le_of_lt (ha s hs), h2⟩, ?_⟩
  intro s hs t ht
  rcases List.mem_cons.1 ht with rfl | ht
  · exact hp s hs
  · exact h3 s hs t ht
/-- 'slices.insertionSortCmpFunc'. -/
theorem fn_insort (l : List Shr) (b n : Nat) (hn : l.length = n) (hl : n < 2 ^ 40) (hok : ∀ s ∈ l, s.ok) (H : AH) (hb : H.get b = some (.cells (shs l))) :
    ∃ l' v, l'.Perm l ∧ Sorted l' ∧ FN Tryz.prog 157 [.hs b 0 n 4, .lit (.int .i64 0), .lit (.int .i64 (n : Int)), .fn 68 []] H v (H.set b (.cells (shs l'))) := by
  suffices h : ∃ v' H', FN Tryz.prog 157 [.hs b 0 n 4, .lit (.int .i64 0), .lit (.int .i64 (n : Int)), .fn 68 []] H v' H' ∧ (∃ l', H' = H.set b (.cells (shs l')) ∧ l'.Perm l ∧ Sorted l') by
    obtain ⟨v', H', h1, l', rfl, h2, h3⟩ := h
    exact ⟨l', v', h2, h3, h1⟩
  refine fn_of cf157 (by simp) ?_
  show AWp _ _ _ ac157 _ _
  unfold ac157
  refine awp_seq_sw ?_
  repeat first | refine swV (fun _ => rfl) ?_ | refine sw_l (fun _ => rfl) trivial ?_ | refine sw_ln (fun _ => rfl) ⟨rfl, leB rfl⟩ ?_ | refine sw_vg rfl (fun _ => rfl) trivial ?_ | refine sw_sk rfl rfl ?_
  refine SW.nil (awp_block ?_)
  refine awp_loop (γ := { p : Nat × List Shr // 1 ≤ p.1 ∧ p.1 ≤ n + 1 ∧ p.2.Perm l ∧ Sorted (p.2.take p.1) }) (fun p => ⟨[(0, .v (.hs b 0 n 4)), (1, .v (.lit (.int .i64 0))), (2, .v (.lit (.int .i64 (n : Int)))), (3, .v (.fn 68 [])), (8, .v (.lit (.int .i64 (p.1.1 : Int))))], [], H.set b (.cells (shs p.1.2))⟩)
    (fun p => n + 1 - p.1.1) ⟨(1, l), by dsimp only; omega, by dsimp only; omega, List.Perm.refl _, ?_⟩ ?_ ?_
  · dsimp only
    cases l with
    | nil => exact List.Pairwise.nil
    | cons s r => simp [Sorted]
  · dsimp only
    rw [AH.set_self hb]
    exact le_sub (sub_cons rfl (sub_cons rfl (sub_cons rfl (sub_cons rfl (sub_cons rfl (sub_nil _))))))
  rintro ⟨⟨i, K⟩, hi1, hi2, hp, hs⟩
  dsimp only at hi1 hi2 hp hs ⊢
  have hKl : K.length = n := by rw [← hn]; exact hp.length_eq
  have hKok : ∀ s ∈ K, s.ok := fun s h => hok s (hp.mem_iff.1 h)
  refine awp_seq_seq_sw ?_
  repeat first | refine swV (fun _ => rfl) ?_ | refine sw_l (fun _ => rfl) trivial ?_ | refine sw_ln (fun _ => rfl) ⟨rfl, leB rfl⟩ ?_ | refine sw_vg rfl (fun _ => rfl) trivial ?_ | refine sw_sk rfl rfl ?_
  refine SW.nil ?_
  refine awp_cond rfl (fun h => awp_skip ?_) fun h => awp_exit ?_
  · have hin : i < n := by have := of_decide_eq_true h; omega
    obtain ⟨T, hT⟩ : ∃ T, K.take i = T := ⟨_, rfl⟩
    obtain ⟨R, hR⟩ : ∃ R, K.drop (i + 1) = R := ⟨_, rfl⟩
    obtain ⟨x, hx⟩ : ∃ x, K[i] = x := ⟨_, rfl⟩
    have hTl : T.length = i := by rw [← hT]; simp; omega
    have hK : K = T ++ x :: R := by
      rw [← hT, ← hR, ← hx, List.getElem_cons_drop, List.take_append_drop]
    have hxo : x.ok := hKok x (by rw [hK]; simp)
    have hTo : ∀ s ∈ T, s.ok := fun s h => hKok s (by rw [hK]; simp [h])
    rw [hT] at hs
    refine awp_seq_join (γ := { K' : List Shr // K'.Perm l ∧ Sorted (K'.take (i + 1)) }) (fun p => ⟨[(0, .v (.hs b 0 n 4)), (1, .v (.lit (.int .i64 0))), (2, .v (.lit (.int .i64 (n : Int)))), (3, .v (.fn 68 [])), (8, .v (.lit (.int .i64 (i : Int))))], [], H.set b (.cells (shs p.1))⟩) ?_ ?_
    · refine awp_block (awp_seq_sw ?_)
      repeat first | refine swV (fun _ => rfl) ?_ | refine sw_l (fun _ => rfl) trivial ?_ | refine sw_ln (fun _ => rfl) ⟨rfl, leB rfl⟩ ?_ | refine sw_vg rfl (fun _ => rfl) trivial ?_ | refine sw_sk rfl rfl ?_
      refine SW.nil (awp_block ?_)
      refine awp_loop (γ := { j : Nat // j ≤ i ∧ ∀ s ∈ T.drop j, x.v < s.v }) (fun p => ⟨[(0, .v (.hs b 0 n 4)), (1, .v (.lit (.int .i64 0))), (2, .v (.lit (.int .i64 (n : Int)))), (3, .v (.fn 68 [])), (8, .v (.lit (.int .i64 (i : Int)))), (9, .v (.lit (.int .i64 (p.1 : Int))))], [],
          H.set b (.cells (shs (T.take p.1 ++ x :: (T.drop p.1 ++ R))))⟩) (fun p => p.1) ⟨i, Nat.le_refl _, by rw [← hTl, List.drop_length]; intro s hs; cases hs⟩ ?_ ?_
      · dsimp only
        rw [show T.take i ++ x :: (T.drop i ++ R) = K by rw [← hTl, List.take_length, List.drop_length, hK]; rfl]
        exact le_sub (sub_cons rfl (sub_cons rfl (sub_cons rfl (sub_cons rfl (sub_cons rfl (sub_cons rfl (sub_nil _)))))))
      rintro ⟨j, hj, hgt⟩
      dsimp only at hj hgt ⊢
      have hlen : (T.take j ++ x :: (T.drop j ++ R)).length = n := by
        rw [← hKl, hK]; simp; omega
      have hfin : ∀ hb' : (∀ s, j ≠ 0 → T[j - 1]? = some s → s.v ≤ x.v), (T.take j ++ x :: (T.drop j ++ R)).Perm l ∧ Sorted ((T.take j ++ x :: (T.drop j ++ R)).take (i + 1)) := fun hb' => by
        refine ⟨List.Perm.trans ?_ hp, ?_⟩
        · rw [hK]
          have h1 : (T.take j ++ x :: (T.drop j ++ R)).Perm (x :: (T.take j ++ (T.drop j ++ R))) := List.perm_middle
          rw [← List.append_assoc, List.take_append_drop] at h1
          exact h1.trans List.perm_middle.symm
        · rw [show T.take j ++ x :: (T.drop j ++ R) = (T.take j ++ x :: T.drop j) ++ R by simp, List.take_left' (by simp; omega)]
          exact hs.insert (by omega) hgt hb'
      refine awp_seq_join (γ := PLift (0 < j ∧ ∀ s, T[j - 1]? = some s → x.v < s.v)) (fun _ => ⟨[(0, .v (.hs b 0 n 4)), (1, .v (.lit (.int .i64 0))), (2, .v (.lit (.int .i64 (n : Int)))), (3, .v (.fn 68 [])), (8, .v (.lit (.int .i64 (i : Int)))), (9, .v (.lit (.int .i64 (j : Int))))], [],
          H.set b (.cells (shs (T.take j ++ x :: (T.drop j ++ R))))⟩) ?_ fun ⟨hj0, hlt⟩ => ?_
      · refine awp_seq_rw hmix ?_
        refine rw_v' (fun _ => rfl) trivial ?_
        refine rw_v' (fun _ => rfl) trivial ?_
        refine rw_v' (fun _ => rfl) trivial ?_
        by_cases hj0 : 0 < j
        · obtain ⟨k, rfl⟩ : ∃ k, j = k + 1 := ⟨j - 1, by omega⟩
          have hkT : k < T.length := by omega
          have hyo : (T[k]).ok := hTo _ (List.getElem_mem hkT)
          rw [show decide (((k + 1 : Nat) : Int) > 0) = true by simp <;> omega]
          refine rw_v' (fun _ => rfl) trivial ?_
          refine rw_vg' rfl (fun _ => rfl) trivial ?_
          refine rw_vg' rfl (fun _ => rfl) trivial ?_
          refine rw_vg' rfl (fun _ => rfl) trivial ?_
          refine rw_vg' rfl (iad_sh rfl rfl) ⟨by omega, by omega, rfl⟩ ?_
          refine rw_hvg' [] rfl (ld_sh rfl (AH.set_get _ _ _) (mid_get T x R (by omega))) trivial ?_
          refine rw_vg' rfl (fun _ => rfl) trivial ?_
          refine rw_vg' rfl (fun _ => rfl) trivial ?_
          refine rw_vg' rfl (i64_sub (q := 1) rfl rfl (by omega) (by omega)) trivial ?_
          rw [Nat.add_sub_cancel]
          refine rw_vg' rfl (iad_sh rfl rfl) ⟨by omega, by omega, rfl⟩ ?_
          refine rw_hvg' [] rfl (ld_sh rfl (AH.set_get _ _ _) (mid_prev T x R (by omega))) trivial ?_
          refine rw_callvg' rfl rfl rfl hbq68 (fn_less x T[k] hxo.1 hyo.1 hxo.2.1 hxo.2.2 hyo.2.1 hyo.2.2 _) ?_
          refine rw_vg' rfl (fun _ => rfl) trivial ?_
          repeat first | refine rw_v' (fun _ => rfl) trivial ?_ | refine rw_l' (fun _ => rfl) trivial ?_ | refine rw_ln' (fun _ => rfl) ⟨rfl, leB rfl⟩ ?_ | refine rw_vg' rfl (fun _ => rfl) trivial ?_ | refine rw_sk' rfl rfl ?_
          refine RW.nil ⟨by kernel_rfl, ?_⟩
          refine awp_cond rfl (fun h => awp_skip ?_) fun h => awp_exit ?_
          · have h := of_decide_eq_true h
            refine ⟨⟨hj0, fun s hs => ?_⟩, le_sub (sub_cons rfl (sub_cons rfl (sub_cons rfl (sub_cons rfl (sub_cons rfl (sub_cons rfl (sub_nil _)))))))⟩
            have hs : T[k]? = some s := hs
            rw [List.getElem?_eq_getElem hkT] at hs
            injection hs with hs
            subst hs; omega
          · have h := of_decide_eq_false h
            refine ⟨⟨_, hfin fun s _ hs => ?_⟩, le_sub (sub_cons rfl (sub_cons rfl (sub_cons rfl (sub_cons rfl (sub_cons rfl (sub_nil _))))))⟩
            have hs : T[k]? = some s := hs
            rw [List.getElem?_eq_getElem hkT] at hs
            injection hs with hs
            subst hs; omega
        · obtain rfl : j = 0 := by omega
          repeat first | refine rw_v' (fun _ => rfl) trivial ?_ | refine rw_l' (fun _ => rfl) trivial ?_ | refine rw_ln' (fun _ => rfl) ⟨rfl, leB rfl⟩ ?_ | refine rw_vg' rfl (fun _ => rfl) trivial ?_ | refine rw_sk' rfl rfl ?_
          refine RW.nil ⟨by kernel_rfl, ?_⟩
          refine awp_cond rfl (fun h => by cases h) fun h => awp_exit ?_
          exact ⟨⟨_, hfin fun s h _ => absurd rfl h⟩, le_sub (sub_cons rfl (sub_cons rfl (sub_cons rfl (sub_cons rfl (sub_cons rfl (sub_nil _))))))⟩
      · obtain ⟨k, rfl⟩ : ∃ k, j = k + 1 := ⟨j - 1, by omega⟩
        have hkT : k < T.length := by omega
        have hyo : (T[k]).ok := hTo _ (List.getElem_mem hkT)
        have hyx := hlt T[k] (List.getElem?_eq_getElem hkT)
        refine awp_seq (awp_block (awp_rw hmix ?_))
        refine rw_v' (fun _ => rfl) trivial ?_
        refine rw_v' (fun _ => rfl) trivial ?_
        refine rw_v' (fun _ => rfl) trivial ?_
        refine rw_v' (fun _ => rfl) trivial ?_
        refine rw_v' (i64_sub (q := 1) rfl rfl (by omega) (by omega)) trivial ?_
        rw [Nat.add_sub_cancel]
        refine rw_v' (fun _ => rfl) trivial ?_
        refine rw_v' (fun _ => rfl) trivial ?_
        refine rw_v' (i64_sub (q := 1) rfl rfl (by omega) (by omega)) trivial ?_
        rw [Nat.add_sub_cancel]
        refine rw_v' (iad_sh rfl rfl) ⟨by omega, by omega, rfl⟩ ?_
        refine rw_hv' [] (ld_sh rfl (AH.set_get _ _ _) (mid_prev T x R (by omega))) trivial ?_
        refine rw_v' (fun _ => rfl) trivial ?_
        refine rw_v' (fun _ => rfl) trivial ?_
        refine rw_v' (iad_sh rfl rfl) ⟨by omega, by omega, rfl⟩ ?_
        refine rw_hv' [] (ld_sh rfl (AH.set_get _ _ _) (mid_get T x R (by omega))) trivial ?_
        refine rw_v' (iad_sh rfl rfl) ⟨by omega, by omega, rfl⟩ ?_
        refine rw_hhn' [] (st_sh rfl rfl hyo.1 (AH.set_get _ _ _) (by omega)) ⟨rfl, by rw [shs_length]; omega⟩ ?_
        refine rw_v' (iad_sh rfl rfl) ⟨by omega, by omega, rfl⟩ ?_
        refine rw_hhn' [] (st_sh rfl rfl hxo.1 (AH.set_get _ _ _) (by rw [List.length_set]; omega)) ⟨rfl, by rw [shs_length, List.length_set]; omega⟩ ?_
        refine RW.nil ⟨by kernel_rfl, ?_⟩
        rw [AH.set_set, AH.set_set, mid_swap T x R (by omega)]
        show AWp _ _ _ _ _ _
        refine awp_sw ?_
        refine swV (fun _ => rfl) ?_
        refine sw_v (i64_sub (q := 1) rfl rfl (by omega) (by omega)) trivial ?_
        rw [Nat.add_sub_cancel]
        repeat first | refine swV (fun _ => rfl) ?_ | refine sw_l (fun _ => rfl) trivial ?_ | refine sw_ln (fun _ => rfl) ⟨rfl, leB rfl⟩ ?_ | refine sw_vg rfl (fun _ => rfl) trivial ?_ | refine sw_sk rfl rfl ?_
        refine SW.nil ?_
        refine ⟨⟨k, by omega, fun s hs => ?_⟩, by dsimp only; omega, le_sub (sub_cons rfl (sub_cons rfl (sub_cons rfl (sub_cons rfl (sub_cons rfl (sub_cons rfl (sub_nil _)))))))⟩
        rw [← List.getElem_cons_drop hkT] at hs
        rcases List.mem_cons.1 hs with rfl | hs
        · exact hyx
        · exact hgt s hs
    · rintro ⟨K', hp', hs'⟩
      refine awp_sw ?_
      refine swV (fun _ => rfl) ?_
      refine sw_v (i64_inc rfl rfl (by omega)) trivial ?_
      repeat first | refine swV (fun _ => rfl) ?_ | refine sw_l (fun _ => rfl) trivial ?_ | refine sw_ln (fun _ => rfl) ⟨rfl, leB rfl⟩ ?_ | refine sw_vg rfl (fun _ => rfl) trivial ?_ | refine sw_sk rfl rfl ?_
      refine SW.nil ?_
      exact ⟨⟨(i + 1, K'), by dsimp only; omega, by dsimp only; omega, hp', hs'⟩, by dsimp only; omega, le_sub (sub_cons rfl (sub_cons rfl (sub_cons rfl (sub_cons rfl (sub_cons rfl (sub_nil _))))))⟩
  · have hin : ¬ i < n := by have := of_decide_eq_false h; omega
    rw [List.take_of_length_le (by omega)] at hs
    exact ⟨.inl rfl, _, rfl, K, rfl, hp, hs⟩
end Iso

/- Sorting shares by their points: slices.SortStableFunc, of fewer than twenty. -/
namespace Iso
open Go Go.Proofs
/-- 'slices.stableCmpFunc', of fewer than twenty. -/
theorem fn_stable (l : List Shr) (b n : Nat) (hn : l.length = n) (hl : n < 20) (hok : ∀ s ∈ l, s.ok) (H : AH) (hb : H.get b = some (.cells (shs l))) :
    ∃ l' v, l'.Perm l ∧ Sorted l' ∧ FN Tryz.prog 109 [.hs b 0 n 4, .lit (.int .i64 (n : Int)), .fn 68 []] H v (H.set b (.cells (shs l'))) := by
  suffices h : ∃ v' H', FN Tryz.prog 109 [.hs b 0 n 4, .lit (.int .i64 (n : Int)), .fn 68 []] H v' H' ∧ (∃ l', H' = H.set b (.cells (shs l')) ∧ l'.Perm l ∧ Sorted l') by
    obtain ⟨v', H', h1, l', rfl, h2, h3⟩ := h
    exact ⟨l', v', h2, h3, h1⟩
  obtain ⟨l', v, hp, hs, fi⟩ := fn_insort l b n hn (by omega) hok H hb
  refine fn_of cf109 (by simp) ?_
  show AWp _ _ _ ac109 _ _
  unfold ac109
  refine awp_seq_sw ?_
  repeat first | refine swV (fun _ => rfl) ?_ | refine sw_l (fun _ => rfl) trivial ?_ | refine sw_ln (fun _ => rfl) ⟨rfl, leB rfl⟩ ?_ | refine sw_vg rfl (fun _ => rfl) trivial ?_ | refine sw_sk rfl rfl ?_
  refine SW.nil (awp_seq_sw ?_)
  repeat first | refine swV (fun _ => rfl) ?_ | refine sw_l (fun _ => rfl) trivial ?_ | refine sw_ln (fun _ => rfl) ⟨rfl, leB rfl⟩ ?_ | refine sw_vg rfl (fun _ => rfl) trivial ?_ | refine sw_sk rfl rfl ?_
  refine SW.nil ?_
  refine awp_seq_join (γ := Unit) (fun _ => ⟨[(0, .v (.hs b 0 n 4)), (1, .v (.lit (.int .i64 (n : Int)))), (2, .v (.fn 68 [])), (6, .v (.lit (.int .i64 20))), (7, .v (.lit (.int .i64 0)))], [], H⟩) ?_ fun _ => ?_
  · refine awp_block ?_
    refine awp_loop (γ := Unit) (fun _ => ⟨[(0, .v (.hs b 0 n 4)), (1, .v (.lit (.int .i64 (n : Int)))), (2, .v (.fn 68 [])), (6, .v (.lit (.int .i64 20))), (7, .v (.lit (.int .i64 0))), (8, .v (.lit (.int .i64 20)))], [], H⟩) (fun _ => 0) () (le_sub (sub_cons rfl (sub_cons rfl (sub_cons rfl (sub_cons rfl (sub_cons rfl (sub_cons rfl (sub_nil _)))))))) ?_
    intro _
    refine awp_seq_seq_sw ?_
    repeat first | refine swV (fun _ => rfl) ?_ | refine sw_l (fun _ => rfl) trivial ?_ | refine sw_ln (fun _ => rfl) ⟨rfl, leB rfl⟩ ?_ | refine sw_vg rfl (fun _ => rfl) trivial ?_ | refine sw_sk rfl rfl ?_
    refine SW.nil ?_
    refine awp_cond rfl (fun h => ?_) fun _ => awp_exit ?_
    · exfalso
      have := of_decide_eq_true h
      omega
    · exact ⟨(), le_sub (sub_cons rfl (sub_cons rfl (sub_cons rfl (sub_cons rfl (sub_cons rfl (sub_nil _))))))⟩
  refine awp_seq_sw ?_
  repeat first | refine swV (fun _ => rfl) ?_ | refine sw_l (fun _ => rfl) trivial ?_ | refine sw_ln (fun _ => rfl) ⟨rfl, leB rfl⟩ ?_ | refine sw_vg rfl (fun _ => rfl) trivial ?_ | refine sw_sk rfl rfl ?_
  refine sw_loud rfl fi ?_
  refine SW.nil (awp_block ?_)
  refine awp_loop (γ := Unit) (fun _ => ⟨[(1, .v (.lit (.int .i64 (n : Int)))), (6, .v (.lit (.int .i64 20)))], [], H.set b (.cells (shs l'))⟩) (fun _ => 0) () (le_sub (sub_cons rfl (sub_cons rfl (sub_nil _)))) ?_
  intro _
  refine awp_seq_seq_sw ?_
  repeat first | refine swV (fun _ => rfl) ?_ | refine sw_l (fun _ => rfl) trivial ?_ | refine sw_ln (fun _ => rfl) ⟨rfl, leB rfl⟩ ?_ | refine sw_vg rfl (fun _ => rfl) trivial ?_ | refine sw_sk rfl rfl ?_
  refine SW.nil ?_
  refine awp_cond rfl (fun h => ?_) fun _ => awp_exit ?_
  · exfalso
    have := of_decide_eq_true h
    omega
  · exact ⟨.inl rfl, _, rfl, l', rfl, hp, hs⟩
/-- 'slices.SortStableFunc', of fewer than twenty. -/
theorem fn_sort (l : List Shr) (b n : Nat) (hn : l.length = n) (hl : n < 20) (hok : ∀ s ∈ l, s.ok) (H : AH) (hb : H.get b = some (.cells (shs l))) :
    ∃ l' v, l'.Perm l ∧ Sorted l' ∧ FN Tryz.prog 67 [.hs b 0 n 4, .fn 68 []] H v (H.set b (.cells (shs l'))) := by
  suffices h : ∃ v' H', FN Tryz.prog 67 [.hs b 0 n 4, .fn 68 []] H v' H' ∧ (∃ l', H' = H.set b (.cells (shs l')) ∧ l'.Perm l ∧ Sorted l') by
    obtain ⟨v', H', h1, l', rfl, h2, h3⟩ := h
    exact ⟨l', v', h2, h3, h1⟩
  obtain ⟨l', v, hp, hs, fi⟩ := fn_stable l b n hn hl hok H hb
  refine fn_of cf67 (by simp) ?_
  show AWp _ _ _ ac67 _ _
  unfold ac67
  refine awp_sw ?_
  repeat first | refine swV (fun _ => rfl) ?_ | refine sw_l (fun _ => rfl) trivial ?_ | refine sw_ln (fun _ => rfl) ⟨rfl, leB rfl⟩ ?_ | refine sw_vg rfl (fun _ => rfl) trivial ?_ | refine sw_sk rfl rfl ?_
  refine sw_loud rfl fi ?_
  refine SW.nil ?_
  exact ⟨.inl rfl, _, rfl, l', rfl, hp, hs⟩
/-- 'slices.SortStableFunc' of none. -/
theorem fn_sort0 (H : AH) : ∃ v, FN Tryz.prog 67 [.lit (.slice none 0 0), .fn 68 []] H v H := by
  have f157 : ∃ v, FN Tryz.prog 157 [.lit (.slice none 0 0), .lit (.int .i64 0), .lit (.int .i64 0), .fn 68 []] H v H := by
    suffices h : ∃ v' H', FN Tryz.prog 157 [.lit (.slice none 0 0), .lit (.int .i64 0), .lit (.int .i64 0), .fn 68 []] H v' H' ∧ H' = H by
      obtain ⟨v', H', h1, rfl⟩ := h; exact ⟨v', h1⟩
    refine fn_of cf157 (by simp) ?_
    show AWp _ _ _ ac157 _ _
    unfold ac157
    refine awp_seq_sw ?_
    repeat first | refine swV (fun _ => rfl) ?_ | refine sw_l (fun _ => rfl) trivial ?_ | refine sw_ln (fun _ => rfl) ⟨rfl, leB rfl⟩ ?_ | refine sw_vg rfl (fun _ => rfl) trivial ?_ | refine sw_sk rfl rfl ?_
    refine SW.nil (awp_block ?_)
    refine awp_loop (γ := Unit) (fun _ => ⟨[(2, .v (.lit (.int .i64 0))), (8, .v (.lit (.int .i64 1)))], [], H⟩) (fun _ => 0) () (le_sub (sub_cons rfl (sub_cons rfl (sub_nil _)))) ?_
    intro _
    refine awp_seq_seq_sw ?_
    repeat first | refine swV (fun _ => rfl) ?_ | refine sw_l (fun _ => rfl) trivial ?_ | refine sw_ln (fun _ => rfl) ⟨rfl, leB rfl⟩ ?_ | refine sw_vg rfl (fun _ => rfl) trivial ?_ | refine sw_sk rfl rfl ?_
    refine SW.nil ?_
    refine awp_cond rfl (fun h => by simp at h) fun _ => awp_exit ?_
    exact ⟨.inl rfl, _, rfl, rfl⟩
  obtain ⟨v1, f157⟩ := f157
  have f109 : ∃ v, FN Tryz.prog 109 [.lit (.slice none 0 0), .lit (.int .i64 0), .fn 68 []] H v H := by
    suffices h : ∃ v' H', FN Tryz.prog 109 [.lit (.slice none 0 0), .lit (.int .i64 0), .fn 68 []] H v' H' ∧ H' = H by
      obtain ⟨v', H', h1, rfl⟩ := h; exact ⟨v', h1⟩
    refine fn_of cf109 (by simp) ?_
    show AWp _ _ _ ac109 _ _
    unfold ac109
    refine awp_seq_sw ?_
    repeat first | refine swV (fun _ => rfl) ?_ | refine sw_l (fun _ => rfl) trivial ?_ | refine sw_ln (fun _ => rfl) ⟨rfl, leB rfl⟩ ?_ | refine sw_vg rfl (fun _ => rfl) trivial ?_ | refine sw_sk rfl rfl ?_
    refine SW.nil (awp_seq_sw ?_)
    repeat first | refine swV (fun _ => rfl) ?_ | refine sw_l (fun _ => rfl) trivial ?_ | refine sw_ln (fun _ => rfl) ⟨rfl, leB rfl⟩ ?_ | refine sw_vg rfl (fun _ => rfl) trivial ?_ | refine sw_sk rfl rfl ?_
    refine SW.nil ?_
    refine awp_seq_join (γ := Unit) (fun _ => ⟨[(0, .v (.lit (.slice none 0 0))), (1, .v (.lit (.int .i64 0))), (2, .v (.fn 68 [])), (6, .v (.lit (.int .i64 20))), (7, .v (.lit (.int .i64 0)))], [], H⟩) ?_ fun _ => ?_
    · refine awp_block ?_
      refine awp_loop (γ := Unit) (fun _ => ⟨[(0, .v (.lit (.slice none 0 0))), (1, .v (.lit (.int .i64 0))), (2, .v (.fn 68 [])), (6, .v (.lit (.int .i64 20))), (7, .v (.lit (.int .i64 0))), (8, .v (.lit (.int .i64 20)))], [], H⟩) (fun _ => 0) () (le_sub (sub_cons rfl (sub_cons rfl (sub_cons rfl (sub_cons rfl (sub_cons rfl (sub_cons rfl (sub_nil _)))))))) ?_
      intro _
      refine awp_seq_seq_sw ?_
      repeat first | refine swV (fun _ => rfl) ?_ | refine sw_l (fun _ => rfl) trivial ?_ | refine sw_ln (fun _ => rfl) ⟨rfl, leB rfl⟩ ?_ | refine sw_vg rfl (fun _ => rfl) trivial ?_ | refine sw_sk rfl rfl ?_
      refine SW.nil ?_
      refine awp_cond rfl (fun h => by simp at h) fun _ => awp_exit ?_
      exact ⟨(), le_sub (sub_cons rfl (sub_cons rfl (sub_cons rfl (sub_cons rfl (sub_cons rfl (sub_nil _))))))⟩
    refine awp_seq_sw ?_
    repeat first | refine swV (fun _ => rfl) ?_ | refine sw_l (fun _ => rfl) trivial ?_ | refine sw_ln (fun _ => rfl) ⟨rfl, leB rfl⟩ ?_ | refine sw_vg rfl (fun _ => rfl) trivial ?_ | refine sw_sk rfl rfl ?_
    refine sw_call rfl f157 ?_
    refine SW.nil (awp_block ?_)
    refine awp_loop (γ := Unit) (fun _ => ⟨[(1, .v (.lit (.int .i64 0))), (6, .v (.lit (.int .i64 20)))], [], H⟩) (fun _ => 0) () (le_sub (sub_cons rfl (sub_cons rfl (sub_nil _)))) ?_
    intro _
    refine awp_seq_seq_sw ?_
    repeat first | refine swV (fun _ => rfl) ?_ | refine sw_l (fun _ => rfl) trivial ?_ | refine sw_ln (fun _ => rfl) ⟨rfl, leB rfl⟩ ?_ | refine sw_vg rfl (fun _ => rfl) trivial ?_ | refine sw_sk rfl rfl ?_
    refine SW.nil ?_
    refine awp_cond rfl (fun h => by simp at h) fun _ => awp_exit ?_
    exact ⟨.inl rfl, _, rfl, rfl⟩
  obtain ⟨v2, f109⟩ := f109
  suffices h : ∃ v' H', FN Tryz.prog 67 [.lit (.slice none 0 0), .fn 68 []] H v' H' ∧ H' = H by
    obtain ⟨v', H', h1, rfl⟩ := h; exact ⟨v', h1⟩
  refine fn_of cf67 (by simp) ?_
  show AWp _ _ _ ac67 _ _
  unfold ac67
  refine awp_sw ?_
  repeat first | refine swV (fun _ => rfl) ?_ | refine sw_l (fun _ => rfl) trivial ?_ | refine sw_ln (fun _ => rfl) ⟨rfl, leB rfl⟩ ?_ | refine sw_vg rfl (fun _ => rfl) trivial ?_ | refine sw_sk rfl rfl ?_
  refine sw_call rfl f109 ?_
  refine SW.nil ?_
  exact ⟨.inl rfl, _, rfl, rfl⟩
end Iso

/- Shares and the fractions that they tell: plain lists. -/
namespace Iso
open Go Go.Proofs
theorem perm_lift {α β : Type} (f : α → β) {l' l : List β} (h : l'.Perm l) : ∀ m : List α, m.map f = l → ∃ m' : List α, m'.Perm m ∧ m'.map f = l' := by
  induction h with
  | nil => intro m hm; exact ⟨[], by rw [List.map_eq_nil_iff.1 hm], rfl⟩
  | cons x h ih =>
    intro m hm
    obtain ⟨a, m1, rfl, ha, hm1⟩ := List.map_eq_cons_iff.1 hm
    obtain ⟨m', h1, h2⟩ := ih m1 hm1
    exact ⟨a :: m', h1.cons a, by rw [List.map_cons, ha, h2]⟩
  | swap x y l =>
    intro m hm
    obtain ⟨a, m1, rfl, ha, hm1⟩ := List.map_eq_cons_iff.1 hm
    obtain ⟨b, m2, rfl, hb, hm2⟩ := List.map_eq_cons_iff.1 hm1
    exact ⟨b :: a :: m2, List.Perm.swap .., by simp [ha, hb, hm2]⟩
  | trans h1 h2 ih1 ih2 =>
    intro m hm
    obtain ⟨m2, p2, e2⟩ := ih2 m hm
    obtain ⟨m1, p1, e1⟩ := ih1 m2 e2
    exact ⟨m1, p1.trans p2, e1⟩
/-- A share of q: as it comes, not below nought, of two words. -/
def Shr.raw (s : Shr) (q : Rat) : Prop := ∃ (n : Int) (d : Nat), RFrac n d (.agg [s.a, s.b, s.c]) ∧ 0 ≤ n ∧ n.natAbs < 2 ^ 128 ∧ d < 2 ^ 128 ∧ q = mkRat n d
/-- A share of q, in lowest terms. -/
def Shr.low (s : Shr) (q : Rat) : Prop := IsQ q (.agg [s.a, s.b, s.c])
theorem Shr.raw.im {s : Shr} {q : Rat} (h : s.raw q) : s.im := by
  obtain ⟨n, d, h, _⟩ := h
  obtain ⟨_, _, _, e, hi⟩ := h.three
  injection e with e
  rw [Shr.im, e]; exact hi
theorem Shr.low.im {s : Shr} {q : Rat} (h : s.low q) : s.im := by
  obtain ⟨_, _, _, e, hi⟩ := IsQ.three h
  injection e with e
  rw [Shr.im, e]; exact hi
def total : List (Shr × Rat) → Rat
  | [] => 0
  | p :: r => p.2 + total r
theorem total_append (l r : List (Shr × Rat)) : total (l ++ r) = total l + total r := by
  induction l with
  | nil => simp [total, Rat.zero_add]
  | cons p l ih => simp only [List.cons_append, total, ih, Rat.add_assoc]
theorem total_perm {l r : List (Shr × Rat)} (h : l.Perm r) : total l = total r := by
  induction h with
  | nil => rfl
  | cons x _ ih => simp only [total, ih]
  | swap x y l => simp only [total]; grind
  | trans _ _ h1 h2 => exact h1.trans h2
end Iso

/- Local variables: what is told of them alike. Slices of shares that nobody writes, as steps. -/
namespace Iso
open Go Go.Proofs
theorem le_same {s t : St} (h : Same s t) : Le s t := fun hw => ⟨hw.same h, fun E ρ β a w hs => ⟨ρ, β, hs.same h⟩⟩
theorem le_loc {A : Env} {L L' : Loc} {H : AH} (h : ∀ t, L.get t = L'.get t) : Le ⟨A, L, H⟩ ⟨A, L', H⟩ := le_same ⟨fun _ => rfl, h, rfl⟩
section
variable {ev : Opd → T} {Lg : Nat → Option (List V)} {H : AH} {d : Option Nat} {x y i : Opd} {b n j : Nat}
theorem iad_vsh {k : IntKind} {l : List Shr} (hx : ev x = .v (.vs (shs l) n)) (hi : ev i = .v (.lit (.int k (j : Int)))) :
    ∀ H, aopE [] d (.iad 4 x i) ev Lg H = some ⟨0 ≤ (j : Int) ∧ (j : Int) < n, .v (.vp (shs (l.drop j))), {}⟩ := fun H => by
  simp only [aopE, hx, hi, Int.toNat_natCast, shs_drop]
theorem ld_vsh {s : Shr} {r : List Shr} (hx : ev x = .v (.vp (shs (s :: r)))) :
    ∀ H, aopE [] d (.ld true 4 x) ev Lg H = some ⟨True, .v (.agg s.cs), {}⟩ := fun H => by
  simp only [aopE, hx, rd, if_true, shs_cons]
  rw [if_pos (by simp [Shr.cs])]
  rfl
theorem bsl_sh {t : Nat} {s : Shr} {z : List V} (hx : ev x = .v (.agg s.cs)) (hs : s.im) (hz : z.length = 4) :
    ∀ H, aopE [] (some t) (.bsl 1 4 z [(0, 4, x)]) ev Lg H = some ⟨True, .v (.vs (shs [s]) 1), {}⟩ := fun H => by
  have e : splice (rep z 1) 0 s.cs = shs [s] := by
    simp only [rep, List.append_nil, splice, List.take_zero, List.nil_append, Nat.zero_add, Shr.cs]
    rw [List.drop_eq_nil_of_le (by simp [hz])]; rfl
  simp only [aopE, fillE, hx, (Shr.ims hs).cells H, e]
  rw [if_pos ⟨rfl, by simp [rep, hz]⟩]
  rfl
theorem app_sh0 {s : Shr} (hx : ev x = .v (.lit (.slice none 0 0))) (hy : ev y = .v (.vs (shs [s]) 1)) (hs : s.im) :
    aopE [] d (.app 4 64 x y) ev Lg H = some ⟨V.ones H (shs [s]) = true ∧ 1 ≠ 0 ∧ 1 * 64 ≤ 2 ^ 47 ∧ 1 ≤ 2 ^ 47, .v (.hs H.next 0 1 4), { heap := some (H.push (.cells (shs [s]))) }⟩ := by
  simp only [aopE, hx, hy, slLen, slCells, shs_length, List.length_cons, List.length_nil, Nat.zero_add, if_true]
theorem app_sh {s : Shr} {l : List Shr} (hx : ev x = .v (.hs b 0 n 4)) (hn : l.length = n) (hg : H.get b = some (.cells (shs l))) (hy : ev y = .v (.vs (shs [s]) 1)) (hs : s.im) :
    aopE [] d (.app 4 64 x y) ev Lg H = some ⟨V.ones H (shs [s]) = true ∧ 4 = 4 ∧ 0 = 0 ∧ n * 4 ≤ (shs l).length ∧ 1 ≠ 0 ∧ (n + 1) * 64 ≤ 2 ^ 47 ∧ n + 1 ≤ 2 ^ 47, .v (.hs H.next 0 (n + 1) 4), { heap := some ((H.del b).push (.cells (shs (l ++ [s])))) }⟩ := by
  have e : (shs l).take (n * 4) ++ shs [s] = shs (l ++ [s]) := by
    rw [shs_append, List.take_of_length_le (by rw [shs_length]; omega)]
  simp only [aopE, hx, hy, hg, slLen, slCells, shs_length, List.length_cons, List.length_nil, Nat.zero_add, if_true, e]
end
end Iso

/- Shares that are one in all: steal.Normal, its first part. -/
namespace Iso
open Go Go.Proofs
theorem Shr.raw.rfrac {s : Shr} {q : Rat} (h : s.raw q) : ∃ (n : Int) (d : Nat), RFrac n d (.agg [s.a, s.b, s.c]) ∧ 0 ≤ n ∧ n.natAbs < 2 ^ 128 ∧ d < 2 ^ 128 ∧ mkRat n d = q := by
  obtain ⟨n, d, h1, h2, h3, h4, h5⟩ := h; exact ⟨n, d, h1, h2, h3, h4, h5.symm⟩
theorem Shr.raw.bd {s : Shr} {q : Rat} (h : s.raw q) : Bd q 128 := by
  obtain ⟨n, d, h1, h2, h3, h4, rfl⟩ := h
  exact Bd.mk h3 h4 h1.pos
theorem total_bd {l : List (Shr × Rat)} (h : ∀ p ∈ l, p.1.raw p.2) : Bd (total l) (1 + l.length * 129) := by
  induction l with
  | nil => exact Bd.int (z := 0) (by decide) (by decide)
  | cons p r ih =>
    have h1 := (h p (List.mem_cons_self ..)).bd
    have h2 := ih fun q hq => h q (List.mem_cons_of_mem _ hq)
    exact (h1.add h2).mono (by simp only [List.length_cons]; omega)
theorem map_drop_cons {l : List (Shr × Rat)} {i : Nat} (h : i < l.length) : (l.map Prod.fst).drop i = l[i].1 :: (l.map Prod.fst).drop (i + 1) := by
  rw [← List.getElem_cons_drop (by simpa using h), List.getElem_map]
/-- A slice of shares that is being built, over the heap H. -/
def Built (H : AH) (o : List Shr) (u : V) (K : AH) : Prop :=
  (∀ c, c < H.next → K.get c = H.get c) ∧ H.next ≤ K.next ∧
    ((o = [] ∧ u = .lit (.slice none 0 0)) ∨ (o ≠ [] ∧ ∃ b, u = .hs b 0 o.length 4 ∧ H.next ≤ b ∧ b < K.next ∧ K.get b = some (.cells (shs o))))
theorem Built.app {H K : AH} {o : List Shr} {s : Shr} {b : Nat} (h : ∀ c, c < H.next → K.get c = H.get c) (h2 : H.next ≤ K.next) (hb : H.next ≤ b) : Built H (o ++ [s]) (.hs K.next 0 (o.length + 1) 4) ((K.del b).push (.cells (shs (o ++ [s])))) := by
  refine ⟨fun c hc => ?_, by rw [AH.next_push, AH.next_del]; omega, .inr ⟨by simp, K.next, by simp, h2, by rw [AH.next_push, AH.next_del]; omega, by rw [show K.next = (K.del b).next from rfl, AH.push_get]⟩⟩
  rw [AH.push_lt (by rw [AH.next_del]; omega), AH.get_del, if_neg (by omega), h c hc]
theorem Built.app0 {H K : AH} {s : Shr} (h : ∀ c, c < H.next → K.get c = H.get c) (h2 : H.next ≤ K.next) : Built H [s] (.hs K.next 0 1 4) (K.push (.cells (shs [s]))) := by
  refine ⟨fun c hc => ?_, by rw [AH.next_push]; omega, .inr ⟨by simp, K.next, rfl, h2, by rw [AH.next_push]; omega, AH.push_get _ _⟩⟩
  rw [AH.push_lt (by omega), h c hc]
theorem Built.nil (H : AH) : Built H [] (.lit (.slice none 0 0)) H := ⟨fun _ _ => rfl, Nat.le_refl _, .inl ⟨rfl, rfl⟩⟩
end Iso

/- Shares that are one in all: steal.Normal. -/
namespace Iso
open Go Go.Proofs
theorem Shr.low.under {s : Shr} {q : Rat} (h : s.low q) (n : Nat) : Vs.under n s.cs := by
  obtain ⟨m, k, e, ⟨_, hm, _⟩, ⟨_, hk, _⟩⟩ := h
  injection e with e
  injection e with e1 e
  injection e with e2 e
  injection e with e3
  simp only [Shr.cs, e1, e2, e3]
  exact ⟨trivial, trivial, hm.under n, hk.under n, trivial⟩
theorem shs_under {m : List (Shr × Rat)} (h : ∀ p ∈ m, p.1.low p.2) (n : Nat) : Vs.under n (shs (m.map Prod.fst)) := by
  induction m with
  | nil => trivial
  | cons p r ih =>
    have h1 := (h p (List.mem_cons_self ..)).under n
    have h2 := ih fun q hq => h q (List.mem_cons_of_mem _ hq)
    obtain ⟨a1, a2, a3, a4, _⟩ := h1
    exact ⟨a1, a2, a3, a4, h2⟩
theorem total_ne {l : List (Shr × Rat)} (h : total l ≠ 0) : (l.filter fun p => decide (p.2 ≠ 0)) ≠ [] := by
  intro hf
  apply h
  clear h
  induction l with
  | nil => rfl
  | cons p r ih =>
    rw [List.filter_cons] at hf
    split at hf
    · cases hf
    · rename_i hp
      have : p.2 = 0 := by simpa using hp
      rw [total, this, ih hf, Rat.zero_add]
theorem fn_normal (l : List (Shr × Rat)) (n : Nat) (hn : l.length = n) (h8 : n ≤ 8) (hraw : ∀ p ∈ l, p.1.raw p.2 ∧ 0 ≤ p.1.v ∧ p.1.v ≤ 1073741824) (hS : total l ≠ 0) (H : AH) :
    ∃ (m : List (Shr × Rat)), (∀ p ∈ m, p.1.low p.2) ∧ Sorted (m.map Prod.fst) ∧ (m.map fun p => (p.1.v, p.2)).Perm ((l.filter fun p => decide (p.2 ≠ 0)).map fun p => (p.1.v, p.2 / total l)) ∧
      FN Tryz.prog 28 [.vs (shs (l.map Prod.fst)) n] H (.vs (shs (m.map Prod.fst)) m.length) H := by
  suffices h : ∃ w H', FN Tryz.prog 28 [.vs (shs (l.map Prod.fst)) n] H w H' ∧ ((∃ (m : List (Shr × Rat)), (∀ p ∈ m, p.1.low p.2) ∧ Sorted (m.map Prod.fst) ∧ (m.map fun p => (p.1.v, p.2)).Perm ((l.filter fun p => decide (p.2 ≠ 0)).map fun p => (p.1.v, p.2 / total l)) ∧ w = .vs (shs (m.map Prod.fst)) m.length) ∧ ∀ b, b < H.next → H'.get b = H.get b) by
    obtain ⟨w, H', h1, ⟨m, m1, m2, m3, rfl⟩, h3⟩ := h
    exact ⟨m, m1, m2, m3, h1.quiet h3 (shs_under m1 _)⟩
  obtain ⟨w0, hw0, f0⟩ := fn_ofQ 0 (by decide) (by decide) H
  obtain ⟨a0, b0, c0, rfl, i0⟩ := IsQ.three hw0
  refine fn_of cf28 (by simp) ?_
  show AWp _ _ _ ac28 _ _
  unfold ac28
  refine awp_seq_sw ?_
  repeat first | refine swV (fun _ => rfl) ?_ | refine sw_l (fun _ => rfl) trivial ?_ | refine sw_ln (fun _ => rfl) ⟨rfl, leB rfl⟩ ?_ | refine sw_vg rfl (fun _ => rfl) trivial ?_ | refine sw_sk rfl rfl ?_
  refine SW.nil (awp_seq_sw ?_)
  refine sw_call rfl f0 ?_
  repeat first | refine swV (fun _ => rfl) ?_ | refine sw_l (fun _ => rfl) trivial ?_ | refine sw_ln (fun _ => rfl) ⟨rfl, leB rfl⟩ ?_ | refine sw_vg rfl (fun _ => rfl) trivial ?_ | refine sw_sk rfl rfl ?_
  refine sw_ln (st_agg [_, _, _] rfl rfl i0 rfl rfl) ⟨rfl, leB rfl⟩ ?_
  refine SW.nil (awp_seq_seq_sw ?_)
  repeat first | refine swV (fun _ => rfl) ?_ | refine sw_l (fun _ => rfl) trivial ?_ | refine sw_ln (fun _ => rfl) ⟨rfl, leB rfl⟩ ?_ | refine sw_vg rfl (fun _ => rfl) trivial ?_ | refine sw_sk rfl rfl ?_
  refine SW.nil (awp_block ?_)
  refine awp_loop (γ := { p : Nat × V × V × V // p.1 ≤ n ∧ IsQ (total (l.take p.1)) (.agg [p.2.1, p.2.2.1, p.2.2.2]) })
    (fun p => ⟨[(0, .v (.vs (shs (l.map Prod.fst)) n)), (3, .lp 3 0), (12, .v (.vs (shs (l.map Prod.fst)) n)), (13, .v (.lit (.int .i64 (n : Int)))), (14, .v (.lit (.int .i64 (p.1.1 : Int))))], [(3, [p.1.2.1, p.1.2.2.1, p.1.2.2.2])], H⟩) (fun p => n - p.1.1)
    ⟨(0, a0, b0, c0), Nat.zero_le _, hw0⟩ ?_ ?_
  · dsimp only
    refine Le.trans (le_loc (L' := [(3, [a0, b0, c0])]) ?_) (le_sub (sub_cons rfl (sub_cons rfl (sub_cons rfl (sub_cons rfl (sub_cons rfl (sub_nil _)))))))
    intro t
    simp only [Loc.get]
    split <;> rfl
  rintro ⟨⟨i, a, b, c⟩, hi, hq⟩
  dsimp only at hi hq ⊢
  refine awp_seq_sw ?_
  repeat first | refine swV (fun _ => rfl) ?_ | refine sw_l (fun _ => rfl) trivial ?_ | refine sw_ln (fun _ => rfl) ⟨rfl, leB rfl⟩ ?_ | refine sw_vg rfl (fun _ => rfl) trivial ?_ | refine sw_sk rfl rfl ?_
  refine SW.nil (awp_seq (awp_cond rfl (fun h => ?_) fun h => ?_))
  · have hlt : i < n := by simpa using h
    refine awp_skip ?_
    have hil : i < l.length := by omega
    obtain ⟨hr, hv1, hv2⟩ := hraw l[i] (List.getElem_mem hil)
    have him := hr.im
    have hdr := map_drop_cons hil
    obtain ⟨N, D, rf, n0, nb, db, e⟩ := hr.rfrac
    have hbt := total_bd (l := l.take i) fun p hp => (hraw p (List.mem_of_mem_take hp)).1
    rw [show (l.take i).length = i by simp; omega] at hbt
    obtain ⟨w, hw, fw⟩ := fn_addQ (1 + i * 129) 128 (hq.rawB hbt (by omega)) rf hbt.1 hbt.2 nb db (by omega) H
    rw [Rat.mkRat_self, e, show total (l.take i) + l[i].2 = total (l.take (i + 1)) by
      rw [List.take_add_one, List.getElem?_eq_getElem hil, total_append]; simp [total, Rat.add_zero]] at hw
    obtain ⟨a', b', c', rfl, i'⟩ := IsQ.three hw
    generalize hs : l[i].1 = s at *
    refine awp_seq (awp_block ?_)
    refine awp_seq_sw ?_
    refine sw_v (iad_vsh rfl rfl) ⟨by omega, by omega⟩ ?_
    rw [hdr]
    refine sw_v (ld_vsh rfl) trivial ?_
    repeat first | refine swV (fun _ => rfl) ?_ | refine sw_l (fun _ => rfl) trivial ?_ | refine sw_ln (fun _ => rfl) ⟨rfl, leB rfl⟩ ?_ | refine sw_vg rfl (fun _ => rfl) trivial ?_ | refine sw_sk rfl rfl ?_
    refine sw_ln (st_agg [_, _, _, _] rfl rfl (Shr.ims him) rfl rfl) ⟨rfl, leB rfl⟩ ?_
    refine SW.nil (awp_sw ?_)
    refine sw_v (ld_agg [_, _, _] rfl rfl rfl (leB rfl)) trivial ?_
    refine swV (fun _ => rfl) ?_
    refine sw_v (ld_agg [_, _, _] rfl rfl rfl (leB rfl)) trivial ?_
    refine sw_call rfl fw ?_
    refine sw_ln (st_agg [_, _, _] rfl rfl i' rfl rfl) ⟨rfl, leB rfl⟩ ?_
    refine SW.nil ?_
    show AWp _ _ _ _ _ _
    refine awp_sw ?_
    refine sw_v (i64_inc rfl rfl (by omega)) trivial ?_
    repeat first | refine swV (fun _ => rfl) ?_ | refine sw_l (fun _ => rfl) trivial ?_ | refine sw_ln (fun _ => rfl) ⟨rfl, leB rfl⟩ ?_ | refine sw_vg rfl (fun _ => rfl) trivial ?_ | refine sw_sk rfl rfl ?_
    refine SW.nil ?_
    refine ⟨⟨(i + 1, a', b', c'), by dsimp only; omega, hw⟩, by dsimp only; omega, ?_⟩
    refine Le.trans (le_drop _ 5) ?_
    refine Le.trans (le_loc (L' := [(3, [a', b', c'])]) ?_) (le_sub (sub_cons rfl (sub_cons rfl (sub_cons rfl (sub_cons rfl (sub_cons rfl (sub_nil _)))))))
    intro t
    have hd : ∀ x y z w : List V, Loc.del [(3, x), (5, y), (5, z), (3, w)] 5 = [(3, x), (3, w)] := fun _ _ _ _ => rfl
    show Loc.get (Loc.del [(3, [a', b', c']), (5, _), (5, _), (3, _)] 5) t = _
    rw [hd]
    simp only [Loc.get]
    split <;> rfl
  · obtain rfl : i = n := by simp at h; omega
    refine awp_exit ?_
    show AWp _ _ _ _ _ _
    rw [List.take_of_length_le (by omega)] at hq
    obtain ⟨_, _, _, e0, iS⟩ := IsQ.three hq
    injection e0 with e0
    rw [← e0] at iS
    clear e0
    have hbS := total_bd (l := l) fun p hp => (hraw p hp).1
    rw [hn] at hbS
    refine awp_seq_sw ?_
    repeat first | refine swV (fun _ => rfl) ?_ | refine sw_l (fun _ => rfl) trivial ?_ | refine sw_ln (fun _ => rfl) ⟨rfl, leB rfl⟩ ?_ | refine sw_vg rfl (fun _ => rfl) trivial ?_ | refine sw_sk rfl rfl ?_
    refine SW.nil (awp_seq_seq_sw ?_)
    repeat first | refine swV (fun _ => rfl) ?_ | refine sw_l (fun _ => rfl) trivial ?_ | refine sw_ln (fun _ => rfl) ⟨rfl, leB rfl⟩ ?_ | refine sw_vg rfl (fun _ => rfl) trivial ?_ | refine sw_sk rfl rfl ?_
    refine SW.nil ?_
    refine awp_join (γ := { p : List (Shr × Rat) × V × AH // (∀ q ∈ p.1, q.1.low q.2 ∧ 0 ≤ q.1.v ∧ q.1.v ≤ 1073741824) ∧ (p.1.map fun q => (q.1.v, q.2)) = ((l.filter fun q => decide (q.2 ≠ 0)).map fun q => (q.1.v, q.2 / total l)) ∧ Built H (p.1.map Prod.fst) p.2.1 p.2.2 })
      (fun p => ⟨[(6, .v p.1.2.1)], [], p.1.2.2⟩) ?_ ?_
    · refine awp_block ?_
      refine awp_loop (γ := { p : Nat × List (Shr × Rat) × V × AH // p.1 ≤ i ∧ (∀ q ∈ p.2.1, q.1.low q.2 ∧ 0 ≤ q.1.v ∧ q.1.v ≤ 1073741824) ∧ (p.2.1.map fun q => (q.1.v, q.2)) = (((l.take p.1).filter fun q => decide (q.2 ≠ 0)).map fun q => (q.1.v, q.2 / total l)) ∧ Built H (p.2.1.map Prod.fst) p.2.2.1 p.2.2.2 })
        (fun p => ⟨[(3, .lp 3 0), (6, .v p.1.2.2.1), (23, .v (.vs (shs (l.map Prod.fst)) i)), (24, .v (.lit (.int .i64 (i : Int)))), (25, .v (.lit (.int .i64 (p.1.1 : Int))))], [(3, [a, b, c])], p.1.2.2.2⟩) (fun p => i - p.1.1)
        ⟨(0, [], .lit (.slice none 0 0), H), Nat.zero_le _, (fun q hq => (List.not_mem_nil hq).elim), rfl, Built.nil H⟩ (le_sub (sub_cons rfl (sub_cons rfl (sub_cons rfl (sub_cons rfl (sub_cons rfl (sub_nil _))))))) ?_
      rintro ⟨⟨j, o, u, K⟩, hj, hlow, hmap, hB⟩
      dsimp only at hj hlow hmap hB ⊢
      refine awp_seq_sw ?_
      repeat first | refine swV (fun _ => rfl) ?_ | refine sw_l (fun _ => rfl) trivial ?_ | refine sw_ln (fun _ => rfl) ⟨rfl, leB rfl⟩ ?_ | refine sw_vg rfl (fun _ => rfl) trivial ?_ | refine sw_sk rfl rfl ?_
      refine SW.nil (awp_seq (awp_cond rfl (fun h => ?_) fun h => ?_))
      · have hlt : j < i := by simpa using h
        refine awp_skip ?_
        have hjl : j < l.length := by omega
        obtain ⟨hr, hv1, hv2⟩ := hraw l[j] (List.getElem_mem hjl)
        have hdr := map_drop_cons hjl
        have hel : l.take (j + 1) = l.take j ++ [l[j]] := by rw [List.take_add_one, List.getElem?_eq_getElem hjl]; rfl
        have hol : o.length ≤ j := by
          have := congrArg List.length hmap
          simp only [List.length_map] at this
          have h2 := List.length_filter_le (fun q : Shr × Rat => decide (q.2 ≠ 0)) (l.take j)
          simp at h2
          simp at this
          omega
        generalize hp : l[j] = p at *
        obtain ⟨s, q⟩ := p
        dsimp only at hr hv1 hv2 hdr
        have him := hr.im
        obtain ⟨N, D, rf, n0, nb, db, e⟩ := hr.rfrac
        have fsg := fn_signQ rf nb (by omega) K
        refine awp_seq_join (γ := { p : List (Shr × Rat) × V × AH // (∀ q ∈ p.1, q.1.low q.2 ∧ 0 ≤ q.1.v ∧ q.1.v ≤ 1073741824) ∧ (p.1.map fun q => (q.1.v, q.2)) = (((l.take (j + 1)).filter fun q => decide (q.2 ≠ 0)).map fun q => (q.1.v, q.2 / total l)) ∧ Built H (p.1.map Prod.fst) p.2.1 p.2.2 })
          (fun p => ⟨[(3, .lp 3 0), (6, .v p.1.2.1), (23, .v (.vs (shs (l.map Prod.fst)) i)), (24, .v (.lit (.int .i64 (i : Int)))), (25, .v (.lit (.int .i64 (j : Int))))], [(3, [a, b, c])], p.1.2.2⟩) ?_ fun g => ?_
        · refine awp_block ?_
          refine awp_seq_sw ?_
          refine sw_v (iad_vsh rfl rfl) ⟨by omega, by omega⟩ ?_
          rw [hdr]
          refine sw_v (ld_vsh rfl) trivial ?_
          repeat first | refine swV (fun _ => rfl) ?_ | refine sw_l (fun _ => rfl) trivial ?_ | refine sw_ln (fun _ => rfl) ⟨rfl, leB rfl⟩ ?_ | refine sw_vg rfl (fun _ => rfl) trivial ?_ | refine sw_sk rfl rfl ?_
          refine sw_ln (st_agg [_, _, _, _] rfl rfl (Shr.ims him) rfl rfl) ⟨rfl, leB rfl⟩ ?_
          refine SW.nil (awp_seq_sw ?_)
          refine swV (fun _ => rfl) ?_
          refine sw_v (ld_agg [_, _, _] rfl rfl rfl (leB rfl)) trivial ?_
          refine sw_call rfl fsg ?_
          repeat first | refine swV (fun _ => rfl) ?_ | refine sw_l (fun _ => rfl) trivial ?_ | refine sw_ln (fun _ => rfl) ⟨rfl, leB rfl⟩ ?_ | refine sw_vg rfl (fun _ => rfl) trivial ?_ | refine sw_sk rfl rfl ?_
          refine SW.nil (awp_cond rfl (fun hc => ?_) fun hc => ?_)
          · have hN : N ≠ 0 := by
              rintro rfl
              simp [sgn] at hc
            have hq0 : q ≠ 0 := by
              rw [← e]
              exact (Rat.mkRat_ne_zero (by have := rf.pos; omega)).2 hN
            obtain ⟨w, hw, fw⟩ := fn_divQ 128 (1 + i * 129) rf (hq.rawB hbS (by omega)) nb db hbS.1 hbS.2 (by omega) (fun h0 => hS (Rat.num_eq_zero.1 h0)) K
            rw [Rat.mkRat_self, e] at hw
            obtain ⟨a', b', c', rfl, i'⟩ := IsQ.three hw
            refine awp_seq_sw ?_
            refine swV (fun _ => rfl) ?_
            refine sw_v (ld_agg [_, _, _] rfl rfl rfl (leB rfl)) trivial ?_
            refine sw_v (ld_agg [_, _, _] rfl rfl rfl (leB rfl)) trivial ?_
            refine sw_call rfl fw ?_
            repeat first | refine swV (fun _ => rfl) ?_ | refine sw_l (fun _ => rfl) trivial ?_ | refine sw_ln (fun _ => rfl) ⟨rfl, leB rfl⟩ ?_ | refine sw_vg rfl (fun _ => rfl) trivial ?_ | refine sw_sk rfl rfl ?_
            refine sw_ln (st_agg [_, _, _] rfl rfl i' rfl rfl) ⟨rfl, leB rfl⟩ ?_
            repeat first | refine swV (fun _ => rfl) ?_ | refine sw_l (fun _ => rfl) trivial ?_ | refine sw_ln (fun _ => rfl) ⟨rfl, leB rfl⟩ ?_ | refine sw_vg rfl (fun _ => rfl) trivial ?_ | refine sw_sk rfl rfl ?_
            refine SW.nil (awp_sw ?_)
            refine swV (fun _ => rfl) ?_
            refine swV (fun _ => rfl) ?_
            refine swV (fun _ => rfl) ?_
            refine sw_v (ld_agg [_, _, _] rfl rfl rfl (leB rfl)) trivial ?_
            refine sw_v (bld_of [_, _, _, _] (fill_cons (u := .lit (.int .i64 s.v)) (l := [_]) rfl (fun _ => rfl) ⟨rfl, leB rfl⟩ rfl (fill_cons (l := [_, _, _]) rfl i'.cells ⟨rfl, leB rfl⟩ rfl fill_nil))) trivial ?_
            refine sw_v (bsl_sh (s := ⟨s.v, a', b', c'⟩) rfl i' rfl) trivial ?_
            have hnew : ∀ q' ∈ o ++ [((⟨s.v, a', b', c'⟩ : Shr), q / total l)], q'.1.low q'.2 ∧ 0 ≤ q'.1.v ∧ q'.1.v ≤ 1073741824 := by
              intro q' hq'
              rcases List.mem_append.1 hq' with h1 | h1
              · exact hlow q' h1
              · rw [List.mem_singleton.1 h1]; exact ⟨hw, hv1, hv2⟩
            have hnm : ((o ++ [((⟨s.v, a', b', c'⟩ : Shr), q / total l)]).map fun q => (q.1.v, q.2)) = (((l.take (j + 1)).filter fun q => decide (q.2 ≠ 0)).map fun q => (q.1.v, q.2 / total l)) := by
              rw [hel, List.filter_append, List.map_append, List.map_append, hmap]
              simp [hq0]
            have hsi : V.ones K (shs [(⟨s.v, a', b', c'⟩ : Shr)]) = true := shs_imms (fun t ht => by rw [List.mem_singleton.1 ht]; exact i') K
            obtain ⟨hB1, hB2, hB3⟩ := hB
            rcases hB3 with ⟨ho, rfl⟩ | ⟨ho, bb, rfl, hb1, hb2, hg⟩
            · refine sw_hh [] (app_sh0 rfl rfl i') ⟨hsi, by decide, by decide, by decide⟩ ?_
              repeat first | refine swV (fun _ => rfl) ?_ | refine sw_l (fun _ => rfl) trivial ?_ | refine sw_ln (fun _ => rfl) ⟨rfl, leB rfl⟩ ?_ | refine sw_vg rfl (fun _ => rfl) trivial ?_ | refine sw_sk rfl rfl ?_
              refine SW.nil ?_
              refine ⟨⟨(o ++ [((⟨s.v, a', b', c'⟩ : Shr), q / total l)], .hs K.next 0 1 4, K.push (.cells (shs [(⟨s.v, a', b', c'⟩ : Shr)]))), hnew, hnm, ?_⟩, ?_⟩
              rotate_left
              · refine Le.trans (le_drop _ 8) (Le.trans (le_drop _ 9) ?_)
                exact le_sub (sub_cons rfl (sub_cons rfl (sub_cons rfl (sub_cons rfl (sub_cons rfl (sub_nil _))))))
              · have : o = [] := List.map_eq_nil_iff.1 ho
                subst this
                exact Built.app0 hB1 hB2
            · refine sw_hh [] (app_sh rfl rfl hg rfl i') ⟨hsi, rfl, rfl, by rw [shs_length]; omega, by decide, by simp; omega, by simp; omega⟩ ?_
              repeat first | refine swV (fun _ => rfl) ?_ | refine sw_l (fun _ => rfl) trivial ?_ | refine sw_ln (fun _ => rfl) ⟨rfl, leB rfl⟩ ?_ | refine sw_vg rfl (fun _ => rfl) trivial ?_ | refine sw_sk rfl rfl ?_
              refine SW.nil ?_
              refine ⟨⟨(o ++ [((⟨s.v, a', b', c'⟩ : Shr), q / total l)], .hs K.next 0 ((o.map Prod.fst).length + 1) 4, (K.del bb).push (.cells (shs (o.map Prod.fst ++ [(⟨s.v, a', b', c'⟩ : Shr)])))), hnew, hnm, ?_⟩, ?_⟩
              rotate_left
              · refine Le.trans (le_drop _ 8) (Le.trans (le_drop _ 9) ?_)
                exact le_sub (sub_cons rfl (sub_cons rfl (sub_cons rfl (sub_cons rfl (sub_cons rfl (sub_nil _))))))
              · rw [List.map_append]
                exact Built.app hB1 hB2 hb1
          · have hq0 : q = 0 := by
              rw [← e]
              refine (Rat.mkRat_eq_zero (by have := rf.pos; omega)).2 ?_
              simp [sgn] at hc
              omega
            refine awp_skip ?_
            refine ⟨⟨(o, u, K), hlow, ?_, hB⟩, ?_⟩
            · rw [hel, List.filter_append, List.map_append, hmap]
              simp [hq0]
            · refine Le.trans (le_drop _ 8) ?_
              exact le_sub (sub_cons rfl (sub_cons rfl (sub_cons rfl (sub_cons rfl (sub_cons rfl (sub_nil _))))))
        · obtain ⟨⟨o', u', K'⟩, h1', h2', h3'⟩ := g
          refine awp_sw ?_
          refine sw_v (i64_inc rfl rfl (by omega)) trivial ?_
          repeat first | refine swV (fun _ => rfl) ?_ | refine sw_l (fun _ => rfl) trivial ?_ | refine sw_ln (fun _ => rfl) ⟨rfl, leB rfl⟩ ?_ | refine sw_vg rfl (fun _ => rfl) trivial ?_ | refine sw_sk rfl rfl ?_
          refine SW.nil ?_
          refine ⟨⟨(j + 1, o', u', K'), by dsimp only; omega, h1', h2', h3'⟩, by dsimp only; omega, ?_⟩
          exact le_sub (sub_cons rfl (sub_cons rfl (sub_cons rfl (sub_cons rfl (sub_cons rfl (sub_nil _))))))
      · have hjn : j = i := by simp at h; omega
        subst hjn
        refine awp_exit ?_
        rw [List.take_of_length_le (by omega)] at hmap
        exact ⟨⟨(o, u, K), hlow, hmap, hB⟩, by
          refine Le.trans (le_drop _ 3) ?_
          exact le_sub (sub_cons rfl (sub_nil _))⟩
    · rintro ⟨⟨o, u, K⟩, hlow, hmap, hB1, hB2, hB3⟩
      dsimp only at hlow hmap hB1 hB2 hB3 ⊢
      have hne : o ≠ [] := by
        rintro rfl
        exact total_ne hS (List.map_eq_nil_iff.1 hmap.symm)
      rcases hB3 with ⟨ho, _⟩ | ⟨_, bb, rfl, hb1, hb2, hg⟩
      · exact absurd (List.map_eq_nil_iff.1 ho) hne
      have hol : o.length ≤ 8 := by
        have := congrArg List.length hmap
        simp only [List.length_map] at this
        have h2 := List.length_filter_le (fun q : Shr × Rat => decide (q.2 ≠ 0)) l
        omega
      obtain ⟨l', v, hp, hs, fs⟩ := fn_sort (o.map Prod.fst) bb (o.map Prod.fst).length rfl (by simp; omega) (fun s hs => by
        obtain ⟨p, hp, rfl⟩ := List.mem_map.1 hs
        exact ⟨(hlow p hp).1.im, (hlow p hp).2.1, (hlow p hp).2.2⟩) K hg
      obtain ⟨m, hm1, hm2⟩ := perm_lift Prod.fst hp o rfl
      refine awp_seq_sw ?_
      repeat first | refine swV (fun _ => rfl) ?_ | refine sw_l (fun _ => rfl) trivial ?_ | refine sw_ln (fun _ => rfl) ⟨rfl, leB rfl⟩ ?_ | refine sw_vg rfl (fun _ => rfl) trivial ?_ | refine sw_sk rfl rfl ?_
      refine sw_loud rfl fs ?_
      refine SW.nil ?_
      refine awp_le (Le.trans (le_sub (sub_cons (t := 6) rfl (sub_nil _))) (le_frz1 (by rw [AH.get_set, if_pos rfl]) (by rw [shs_length, hp.length_eq, Nat.mul_comm]))) ?_
      refine awp_seq_sw ?_
      repeat first | refine swV (fun _ => rfl) ?_ | refine sw_l (fun _ => rfl) trivial ?_ | refine sw_ln (fun _ => rfl) ⟨rfl, leB rfl⟩ ?_ | refine sw_vg rfl (fun _ => rfl) trivial ?_ | refine sw_sk rfl rfl ?_
      refine SW.nil (awp_ret ?_)
      refine ⟨.inr rfl, _, rfl, ⟨m, fun p hp => (hlow p (hm1.mem_iff.1 hp)).1, by rw [hm2]; exact hs, ?_, ?_⟩, ?_⟩
      · rw [← hmap]; exact hm1.map _
      · rw [hm2, hm1.length_eq, List.length_map]; rfl
      · intro c hc
        rw [AH.get_del, if_neg (by omega), AH.get_set, if_neg (by omega), hB1 c hc]
end Iso

/- Plain: shares, divided by their sum. -/
namespace Iso
open Go Go.Proofs
theorem Bd.div {p q : Rat} {a b : Nat} (h : Bd p a) (k : Bd q b) (h0 : q ≠ 0) : Bd (p / q) (a + b) := by
  have e := div_mk p.num q.num p.den q.den p.den_pos q.den_pos (fun h => h0 (Rat.num_eq_zero.1 h))
  rw [Rat.mkRat_self, Rat.mkRat_self] at e
  rw [← e]
  refine Bd.mk ?_ ?_ ?_
  · have := mul_pow h.1 k.2
    split <;> simpa [Int.natAbs_neg, Int.natAbs_mul] using this
  · rw [Int.natAbs_mul, Int.natAbs_natCast, Nat.mul_comm]
    exact mul_pow h.2 k.1
  · have : q.num ≠ 0 := fun h => h0 (Rat.num_eq_zero.1 h)
    have h2 := p.den_pos
    rw [Int.natAbs_mul, Int.natAbs_natCast]
    exact Nat.mul_pos (by omega) h2
theorem raw_nonneg {s : Shr} {q : Rat} (h : s.raw q) : 0 ≤ q := by
  obtain ⟨n, d, h1, h2, h3, h4, rfl⟩ := h
  rw [← Rat.num_nonneg, mk_num h1.pos]
  exact Int.ediv_nonneg h2 (Int.natCast_nonneg _)
theorem total_nonneg {l : List (Shr × Rat)} (h : ∀ p ∈ l, 0 ≤ p.2) : 0 ≤ total l := by
  induction l with
  | nil => exact Rat.le_refl
  | cons p r ih => exact Rat.add_nonneg (h p (List.mem_cons_self ..)) (ih fun q hq => h q (List.mem_cons_of_mem _ hq))
/-- What 'steal.Normal' tells of shares. -/
structure Normed (o m : List (Shr × Rat)) : Prop where
  low : ∀ p ∈ m, p.1.low p.2
  sorted : Sorted (m.map Prod.fst)
  perm : (m.map fun p => (p.1.v, p.2)).Perm ((o.filter fun p => decide (p.2 ≠ 0)).map fun p => (p.1.v, p.2 / total o))
theorem Normed.len {o m : List (Shr × Rat)} (h : Normed o m) : m.length = (o.filter fun p => decide (p.2 ≠ 0)).length := by
  have := h.perm.length_eq
  simpa using this
theorem Normed.mem {o m : List (Shr × Rat)} (h : Normed o m) {p : Shr × Rat} (hp : p ∈ m) : ∃ x ∈ o, x.2 ≠ 0 ∧ x.1.v = p.1.v ∧ p.2 = x.2 / total o := by
  have h1 : (p.1.v, p.2) ∈ (o.filter fun p => decide (p.2 ≠ 0)).map fun p => (p.1.v, p.2 / total o) := h.perm.mem_iff.1 (List.mem_map.2 ⟨p, hp, rfl⟩)
  obtain ⟨x, hx, e⟩ := List.mem_map.1 h1
  obtain ⟨hx1, hx2⟩ := List.mem_filter.1 hx
  injection e with e1 e2
  exact ⟨x, hx1, by simpa using hx2, e1, e2.symm⟩
def tot : List (Int × Rat) → Rat
  | [] => 0
  | p :: r => p.2 + tot r
theorem tot_perm {l r : List (Int × Rat)} (h : l.Perm r) : tot l = tot r := by
  induction h with
  | nil => rfl
  | cons x _ ih => simp only [tot, ih]
  | swap x y l => simp only [tot]; grind
  | trans _ _ h1 h2 => exact h1.trans h2
theorem tot_map (l : List (Shr × Rat)) : tot (l.map fun p => (p.1.v, p.2)) = total l := by
  induction l with
  | nil => rfl
  | cons p r ih => simp only [List.map_cons, tot, total, ih]
theorem tot_div (l : List (Shr × Rat)) (t : Rat) : tot ((l.filter fun p => decide (p.2 ≠ 0)).map fun p => (p.1.v, p.2 / t)) = total l / t := by
  induction l with
  | nil => simp [tot, total, Rat.div_def, Rat.zero_mul]
  | cons p r ih =>
    rw [List.filter_cons]
    split
    · rw [List.map_cons, tot, ih, total, Rat.div_def, Rat.div_def, Rat.div_def, Rat.add_mul]
    · rename_i hp
      have hp : p.2 = 0 := by simpa using hp
      rw [ih, total, hp, Rat.zero_add]
theorem Normed.one {o m : List (Shr × Rat)} (h : Normed o m) (h0 : total o ≠ 0) : total m = 1 := by
  rw [← tot_map, tot_perm h.perm, tot_div, Rat.div_def, Rat.mul_inv_cancel _ h0]
theorem Normed.bd {o m : List (Shr × Rat)} (h : Normed o m) (hraw : ∀ p ∈ o, p.1.raw p.2) (i : Nat) : ∃ s, Bd s (1 + i * 129) ∧ total (m.take i) = s / total o := by
  have : ∀ l : List (Shr × Rat), (∀ p ∈ l, p ∈ m) → ∃ s, Bd s (1 + l.length * 129) ∧ total l = s / total o := by
    intro l
    induction l with
    | nil => exact fun _ => ⟨0, Bd.int (z := 0) (by decide) (by decide), by simp [total, Rat.div_def, Rat.zero_mul]⟩
    | cons p r ih =>
      intro hl
      obtain ⟨s, h1, h2⟩ := ih fun q hq => hl q (List.mem_cons_of_mem _ hq)
      obtain ⟨x, hx, _, _, e⟩ := h.mem (hl p (List.mem_cons_self ..))
      refine ⟨x.2 + s, ((hraw x hx).bd.add h1).mono (by simp only [List.length_cons]; omega), ?_⟩
      rw [total, h2, e, Rat.div_def, Rat.div_def, Rat.div_def, Rat.add_mul]
  obtain ⟨s, h1, h2⟩ := this (m.take i) fun p hp => List.mem_of_mem_take hp
  exact ⟨s, h1.mono (by simp only [List.length_take]; have := Nat.min_le_left i m.length; have := Nat.mul_le_mul_right 129 this; omega), h2⟩
theorem Normed.pos {o m : List (Shr × Rat)} (h : Normed o m) (hraw : ∀ p ∈ o, p.1.raw p.2) (h0 : total o ≠ 0) {p : Shr × Rat} (hp : p ∈ m) : 0 < p.2 := by
  obtain ⟨x, hx, hx0, _, e⟩ := h.mem hp
  have h1 := raw_nonneg (hraw x hx)
  have h2 := total_nonneg fun p hp => raw_nonneg (hraw p hp)
  have h3 : 0 < x.2 := Rat.lt_of_le_of_ne h1 (Ne.symm hx0)
  have h4 : 0 < total o := Rat.lt_of_le_of_ne h2 (Ne.symm h0)
  rw [e, Rat.div_def]
  exact Rat.mul_pos h3 (Rat.inv_pos.2 h4)
theorem Normed.size {o m : List (Shr × Rat)} (h : Normed o m) (hraw : ∀ p ∈ o, p.1.raw p.2) (h0 : total o ≠ 0) {p : Shr × Rat} (hp : p ∈ m) : Bd p.2 (128 + (1 + o.length * 129)) := by
  obtain ⟨x, hx, hx0, _, e⟩ := h.mem hp
  rw [e]
  exact (hraw x hx).bd.div (total_bd hraw) h0
end Iso

/- The law StealNormals: its walk, first part. -/
namespace Iso
open Go Go.Proofs
/-- A share as it comes: any words. -/
def Shr.come (s : Shr) (b : Bool) (ms ds : List Nat) : Prop := s.a = .lit (.bool b) ∧ IsSl ms s.b ∧ Dig ms ∧ IsSl ds s.c ∧ Dig ds ∧ -9223372036854775808 ≤ s.v ∧ s.v < 9223372036854775808
/-- A slice of shares, or none. -/
def IsShs (l : List Shr) (v : V) : Prop := v = .vs (shs l) l.length ∨ (l = [] ∧ ∃ a, v = .lit (.slice a 0 0))
section
variable {ev : Opd → T} {Lg : Nat → Option (List V)} {H : AH} {d : Option Nat} {x y i : Opd} {b n j : Nat}
theorem len_shs {l : List Shr} {v : V} (h : IsShs l v) (hx : ev x = .v v) : ∀ H, aopE [] d (.len x) ev Lg H = some ⟨True, .v (.lit (.int .i64 (l.length : Int))), {}⟩ := fun H => by
  rcases h with rfl | ⟨rfl, _, rfl⟩ <;> simp only [aopE, hx] <;> rfl
theorem iad_shs {k : IntKind} {l : List Shr} {v : V} (h : IsShs l v) (hj : j < l.length) (hx : ev x = .v v) (hi : ev i = .v (.lit (.int k (j : Int)))) :
    ∀ H, aopE [] d (.iad 4 x i) ev Lg H = some ⟨0 ≤ (j : Int) ∧ (j : Int) < l.length, .v (.vp (shs (l.drop j))), {}⟩ := fun H => by
  rcases h with rfl | ⟨rfl, _, rfl⟩
  · exact iad_vsh hx hi H
  · simp at hj
end
theorem fn_law5 (l : List Shr) (v : V) (hv : IsShs l v) (hcome : ∀ s ∈ l, ∃ b ms ds, s.come b ms ds) (H : AH) : FN Tryz.prog 5 [v] H (.lit (.bool true)) H := by
  suffices h : ∃ w H', FN Tryz.prog 5 [v] H w H' ∧ (w = .lit (.bool true) ∧ ∀ b, b < H.next → H'.get b = H.get b) by
    obtain ⟨w, H', h1, rfl, h3⟩ := h
    exact h1.quiet h3 trivial
  obtain ⟨w0, hw0, f0⟩ := fn_ofQ 0 (by decide) (by decide) H
  obtain ⟨a0, b0, c0, rfl, i0⟩ := IsQ.three hw0
  have ffit := fn_fit14 H
  refine fn_of cf5 (by simp) ?_
  show AWp _ _ _ ac5 _ _
  unfold ac5
  refine awp_seq_sw ?_
  repeat first | refine swV (fun _ => rfl) ?_ | refine sw_l (fun _ => rfl) trivial ?_ | refine sw_ln (fun _ => rfl) ⟨rfl, leB rfl⟩ ?_ | refine sw_vg rfl (fun _ => rfl) trivial ?_ | refine sw_sk rfl rfl ?_
  refine SW.nil (awp_seq_seq_sw ?_)
  refine sw_call rfl ffit ?_
  repeat first | refine swV (fun _ => rfl) ?_ | refine sw_l (fun _ => rfl) trivial ?_ | refine sw_ln (fun _ => rfl) ⟨rfl, leB rfl⟩ ?_ | refine sw_vg rfl (fun _ => rfl) trivial ?_ | refine sw_sk rfl rfl ?_
  refine SW.nil (awp_cond rfl (fun h => by simp at h) fun _ => awp_skip ?_)
  refine awp_seq_seq_sw ?_
  repeat first | refine swV (fun _ => rfl) ?_ | refine sw_l (fun _ => rfl) trivial ?_ | refine sw_ln (fun _ => rfl) ⟨rfl, leB rfl⟩ ?_ | refine sw_vg rfl (fun _ => rfl) trivial ?_ | refine sw_sk rfl rfl ?_
  refine sw_v (len_shs hv rfl) trivial ?_
  repeat first | refine swV (fun _ => rfl) ?_ | refine sw_l (fun _ => rfl) trivial ?_ | refine sw_ln (fun _ => rfl) ⟨rfl, leB rfl⟩ ?_ | refine sw_vg rfl (fun _ => rfl) trivial ?_ | refine sw_sk rfl rfl ?_
  refine SW.nil (awp_cond rfl (fun h => ?_) fun h8 => awp_skip ?_)
  · refine awp_seq_sw ?_
    repeat first | refine swV (fun _ => rfl) ?_ | refine sw_l (fun _ => rfl) trivial ?_ | refine sw_ln (fun _ => rfl) ⟨rfl, leB rfl⟩ ?_ | refine sw_vg rfl (fun _ => rfl) trivial ?_ | refine sw_sk rfl rfl ?_
    refine SW.nil (awp_ret ?_)
    exact ⟨.inr rfl, _, rfl, rfl, fun _ _ => rfl⟩
  have h8 : l.length ≤ 8 := by simp at h8; omega
  refine awp_seq_sw ?_
  refine sw_call rfl f0 ?_
  repeat first | refine swV (fun _ => rfl) ?_ | refine sw_l (fun _ => rfl) trivial ?_ | refine sw_ln (fun _ => rfl) ⟨rfl, leB rfl⟩ ?_ | refine sw_vg rfl (fun _ => rfl) trivial ?_ | refine sw_sk rfl rfl ?_
  refine sw_ln (st_agg [_, _, _] rfl rfl i0 rfl rfl) ⟨rfl, leB rfl⟩ ?_
  refine SW.nil (awp_seq_sw ?_)
  repeat first | refine swV (fun _ => rfl) ?_ | refine sw_l (fun _ => rfl) trivial ?_ | refine sw_ln (fun _ => rfl) ⟨rfl, leB rfl⟩ ?_ | refine sw_vg rfl (fun _ => rfl) trivial ?_ | refine sw_sk rfl rfl ?_
  refine SW.nil (awp_seq_seq_sw ?_)
  repeat first | refine swV (fun _ => rfl) ?_ | refine sw_l (fun _ => rfl) trivial ?_ | refine sw_ln (fun _ => rfl) ⟨rfl, leB rfl⟩ ?_ | refine sw_vg rfl (fun _ => rfl) trivial ?_ | refine sw_sk rfl rfl ?_
  refine sw_v (len_shs hv rfl) trivial ?_
  repeat first | refine swV (fun _ => rfl) ?_ | refine sw_l (fun _ => rfl) trivial ?_ | refine sw_ln (fun _ => rfl) ⟨rfl, leB rfl⟩ ?_ | refine sw_vg rfl (fun _ => rfl) trivial ?_ | refine sw_sk rfl rfl ?_
  refine SW.nil ?_
  refine awp_join (γ := { p : (V × V × V) × List (Shr × Rat) × V × AH // IsQ (total p.2.1) (.agg [p.1.1, p.1.2.1, p.1.2.2]) ∧ (∀ q ∈ p.2.1, q.1.raw q.2 ∧ 0 ≤ q.1.v ∧ q.1.v ≤ 1073741824) ∧ p.2.1.length ≤ 8 ∧ Built H (p.2.1.map Prod.fst) p.2.2.1 p.2.2.2 })
    (fun p => ⟨[(3, .lp 3 0), (4, .v p.1.2.2.1)], [(3, [p.1.1.1, p.1.1.2.1, p.1.1.2.2])], p.1.2.2.2⟩) ?_ ?_
  · refine awp_block ?_
    refine awp_loop (γ := { p : Nat × (V × V × V) × List (Shr × Rat) × V × AH // p.1 ≤ l.length ∧ IsQ (total p.2.2.1) (.agg [p.2.1.1, p.2.1.2.1, p.2.1.2.2]) ∧ (∀ q ∈ p.2.2.1, q.1.raw q.2 ∧ 0 ≤ q.1.v ∧ q.1.v ≤ 1073741824) ∧ p.2.2.1.length = p.1 ∧ Built H (p.2.2.1.map Prod.fst) p.2.2.2.1 p.2.2.2.2 })
      (fun p => ⟨[(3, .lp 3 0), (4, .v p.1.2.2.2.1), (24, .v v), (25, .v (.lit (.int .i64 (l.length : Int)))), (26, .v (.lit (.int .i64 (p.1.1 : Int))))], [(3, [p.1.2.1.1, p.1.2.1.2.1, p.1.2.1.2.2])], p.1.2.2.2.2⟩) (fun p => l.length - p.1.1)
      ⟨(0, (a0, b0, c0), [], .lit (.slice none 0 0), H), Nat.zero_le _, hw0, (fun q hq => (List.not_mem_nil hq).elim), rfl, Built.nil H⟩ ?_ ?_
    · dsimp only
      refine Le.trans (le_loc (L' := [(3, [a0, b0, c0])]) ?_) (le_sub (sub_cons rfl (sub_cons rfl (sub_cons rfl (sub_cons rfl (sub_cons rfl (sub_nil _)))))))
      intro t
      simp only [Loc.get]
      split <;> rfl
    rintro ⟨⟨i, ⟨a, b, c⟩, o, u, K⟩, hi, hq, ho, hol, hB⟩
    dsimp only at hi hq ho hol hB ⊢
    refine awp_seq_sw ?_
    repeat first | refine swV (fun _ => rfl) ?_ | refine sw_l (fun _ => rfl) trivial ?_ | refine sw_ln (fun _ => rfl) ⟨rfl, leB rfl⟩ ?_ | refine sw_vg rfl (fun _ => rfl) trivial ?_ | refine sw_sk rfl rfl ?_
    refine SW.nil (awp_seq (awp_cond rfl (fun h => ?_) fun h => ?_))
    · have hlt : i < l.length := by simpa using h
      refine awp_skip ?_
      obtain ⟨mb, ms, ds, ea, em, dm, ed, dd, v1, v2⟩ := hcome l[i] (List.getElem_mem hlt)
      have hdr : l.drop i = l[i] :: l.drop (i + 1) := (List.getElem_cons_drop hlt).symm
      generalize hs : l[i] = s at *
      have him : s.im := by rw [Shr.im, ea]; exact frac_imms em.imm ed.imm
      refine awp_seq (awp_block ?_)
      refine awp_seq_sw ?_
      refine sw_v (iad_shs hv hlt rfl rfl) ⟨by omega, by omega⟩ ?_
      rw [hdr]
      refine sw_v (ld_vsh rfl) trivial ?_
      repeat first | refine swV (fun _ => rfl) ?_ | refine sw_l (fun _ => rfl) trivial ?_ | refine sw_ln (fun _ => rfl) ⟨rfl, leB rfl⟩ ?_ | refine sw_vg rfl (fun _ => rfl) trivial ?_ | refine sw_sk rfl rfl ?_
      refine sw_ln (st_agg [_, _, _, _] rfl rfl (Shr.ims him) rfl rfl) ⟨rfl, leB rfl⟩ ?_
      refine SW.nil (awp_seq_seq_sw ?_)
      refine swV (fun _ => rfl) ?_
      refine swV (fun _ => rfl) ?_
      refine swV (fun _ => rfl) ?_
      refine swV (fun _ => rfl) ?_
      refine sw_v (len_sl rfl em) trivial ?_
      refine swV (fun _ => rfl) ?_
      generalize hb1 : decide ((ms.length : Int) > 2) = b1
      cases b1
      rotate_left
      · repeat first | refine swV (fun _ => rfl) ?_ | refine sw_l (fun _ => rfl) trivial ?_ | refine sw_ln (fun _ => rfl) ⟨rfl, leB rfl⟩ ?_ | refine sw_vg rfl (fun _ => rfl) trivial ?_ | refine sw_sk rfl rfl ?_
        refine SW.nil (awp_cond rfl (fun _ => ?_) fun h => by simp at h)
        refine awp_seq_sw ?_
        repeat first | refine swV (fun _ => rfl) ?_ | refine sw_l (fun _ => rfl) trivial ?_ | refine sw_ln (fun _ => rfl) ⟨rfl, leB rfl⟩ ?_ | refine sw_vg rfl (fun _ => rfl) trivial ?_ | refine sw_sk rfl rfl ?_
        refine SW.nil (awp_ret ?_)
        exact ⟨.inr rfl, _, rfl, rfl, hB.1⟩
      refine swV (fun _ => rfl) ?_
      refine sw_vg rfl (fun _ => rfl) trivial ?_
      refine sw_vg rfl (fun _ => rfl) trivial ?_
      refine sw_vg rfl (fun _ => rfl) trivial ?_
      refine sw_vg rfl (len_sl rfl ed) trivial ?_
      refine sw_vg rfl (fun _ => rfl) trivial ?_
      generalize hb2 : decide ((ds.length : Int) > 2) = b2
      cases b2
      rotate_left
      · repeat first | refine swV (fun _ => rfl) ?_ | refine sw_l (fun _ => rfl) trivial ?_ | refine sw_ln (fun _ => rfl) ⟨rfl, leB rfl⟩ ?_ | refine sw_vg rfl (fun _ => rfl) trivial ?_ | refine sw_sk rfl rfl ?_
        refine SW.nil (awp_cond rfl (fun _ => ?_) fun h => by simp at h)
        refine awp_seq_sw ?_
        repeat first | refine swV (fun _ => rfl) ?_ | refine sw_l (fun _ => rfl) trivial ?_ | refine sw_ln (fun _ => rfl) ⟨rfl, leB rfl⟩ ?_ | refine sw_vg rfl (fun _ => rfl) trivial ?_ | refine sw_sk rfl rfl ?_
        refine SW.nil (awp_ret ?_)
        exact ⟨.inr rfl, _, rfl, rfl, hB.1⟩
      refine swV (fun _ => rfl) ?_
      refine swV (fun _ => rfl) ?_
      refine sw_vg rfl (fun _ => rfl) trivial ?_
      refine sw_vg rfl (fun _ => rfl) trivial ?_
      refine sw_vg rfl (fun _ => rfl) trivial ?_
      generalize hb3 : decide (s.v < 0) = b3
      cases b3
      rotate_left
      · repeat first | refine swV (fun _ => rfl) ?_ | refine sw_l (fun _ => rfl) trivial ?_ | refine sw_ln (fun _ => rfl) ⟨rfl, leB rfl⟩ ?_ | refine sw_vg rfl (fun _ => rfl) trivial ?_ | refine sw_sk rfl rfl ?_
        refine SW.nil (awp_cond rfl (fun _ => ?_) fun h => by simp at h)
        refine awp_seq_sw ?_
        repeat first | refine swV (fun _ => rfl) ?_ | refine sw_l (fun _ => rfl) trivial ?_ | refine sw_ln (fun _ => rfl) ⟨rfl, leB rfl⟩ ?_ | refine sw_vg rfl (fun _ => rfl) trivial ?_ | refine sw_sk rfl rfl ?_
        refine SW.nil (awp_ret ?_)
        exact ⟨.inr rfl, _, rfl, rfl, hB.1⟩
      refine swV (fun _ => rfl) ?_
      refine swV (fun _ => rfl) ?_
      refine sw_vg rfl (fun _ => rfl) trivial ?_
      refine sw_vg rfl (fun _ => rfl) trivial ?_
      refine sw_vg rfl (fun _ => rfl) trivial ?_
      generalize hb4 : decide (s.v > 1073741824) = b4
      cases b4
      rotate_left
      · repeat first | refine swV (fun _ => rfl) ?_ | refine sw_l (fun _ => rfl) trivial ?_ | refine sw_ln (fun _ => rfl) ⟨rfl, leB rfl⟩ ?_ | refine sw_vg rfl (fun _ => rfl) trivial ?_ | refine sw_sk rfl rfl ?_
        refine SW.nil (awp_cond rfl (fun _ => ?_) fun h => by simp at h)
        refine awp_seq_sw ?_
        repeat first | refine swV (fun _ => rfl) ?_ | refine sw_l (fun _ => rfl) trivial ?_ | refine sw_ln (fun _ => rfl) ⟨rfl, leB rfl⟩ ?_ | refine sw_vg rfl (fun _ => rfl) trivial ?_ | refine sw_sk rfl rfl ?_
        refine SW.nil (awp_ret ?_)
        exact ⟨.inr rfl, _, rfl, rfl, hB.1⟩
      refine swV (fun _ => rfl) ?_
      refine SW.nil (awp_cond rfl (fun h => by simp at h) fun _ => awp_skip ?_)
      have hb1 : ms.length ≤ 2 := by simp at hb1; omega
      have hb2 : ds.length ≤ 2 := by simp at hb2; omega
      have hb3 : 0 ≤ s.v := by simp at hb3; omega
      have hb4 : s.v ≤ 1073741824 := by simp at hb4; omega
      have nb : ((val ms : Nat) : Int).natAbs < 2 ^ 128 := by
        rw [Int.natAbs_natCast]
        exact Nat.lt_of_lt_of_le (val_lt dm) (Nat.le_trans (Nat.pow_le_pow_right (by decide) hb1) (by decide))
      have db : (if val ds = 0 then 1 else val ds) < 2 ^ 128 := by
        split
        · decide
        · exact Nat.lt_of_lt_of_le (val_lt dd) (Nat.le_trans (Nat.pow_le_pow_right (by decide) hb2) (by decide))
      have rf : RFrac (val ms : Nat) (if val ds = 0 then 1 else val ds) (.agg [.lit (.bool false), s.b, s.c]) := ⟨false, s.b, s.c, val ms, val ds, rfl, ⟨ms, em, dm, rfl, by omega⟩, rfl, ⟨ds, ed, dd, rfl, by omega⟩, rfl⟩
      have i' : Imms [.lit (.bool false), s.b, s.c] := frac_imms em.imm ed.imm
      generalize hdn : (if val ds = 0 then 1 else val ds) = dn at *
      generalize hnn : ((val ms : Nat) : Int) = nn at *
      have hr' : Shr.raw ⟨s.v, .lit (.bool false), s.b, s.c⟩ (mkRat nn dn) := ⟨nn, dn, rf, by omega, nb, db, rfl⟩
      obtain ⟨q, hqe⟩ : ∃ q, mkRat nn dn = q := ⟨_, rfl⟩
      rw [hqe] at hr'
      have hbt := total_bd (l := o) fun p hp => (ho p hp).1
      rw [hol] at hbt
      have htt : total (o ++ [((⟨s.v, .lit (.bool false), s.b, s.c⟩ : Shr), q)]) = total o + q := by
        rw [total_append]; simp [total, Rat.add_zero]
      have hnew : ∀ q' ∈ o ++ [((⟨s.v, .lit (.bool false), s.b, s.c⟩ : Shr), q)], q'.1.raw q'.2 ∧ 0 ≤ q'.1.v ∧ q'.1.v ≤ 1073741824 := by
        intro q' hq'
        rcases List.mem_append.1 hq' with h1 | h1
        · exact ho q' h1
        · rw [List.mem_singleton.1 h1]; exact ⟨hr', hb3, hb4⟩
      have hsi : V.ones K (shs [(⟨s.v, .lit (.bool false), s.b, s.c⟩ : Shr)]) = true := shs_imms (fun t ht => by rw [List.mem_singleton.1 ht]; exact i') K
      show AWp _ _ _ _ _ _
      refine awp_seq_sw ?_
      refine swV (fun _ => rfl) ?_
      refine sw_v (ld_agg [_, _, _] rfl rfl rfl (leB rfl)) trivial ?_
      repeat first | refine swV (fun _ => rfl) ?_ | refine sw_l (fun _ => rfl) trivial ?_ | refine sw_ln (fun _ => rfl) ⟨rfl, leB rfl⟩ ?_ | refine sw_vg rfl (fun _ => rfl) trivial ?_ | refine sw_sk rfl rfl ?_
      refine sw_ln (st_agg [_, _, _] rfl rfl him rfl rfl) ⟨rfl, leB rfl⟩ ?_
      refine SW.nil (awp_seq_sw ?_)
      refine swV (fun _ => rfl) ?_
      refine swV (fun _ => rfl) ?_
      refine sw_ln (fun _ => rfl) ⟨rfl, leB rfl⟩ ?_
      refine SW.nil (awp_seq_sw ?_)
      refine swV (fun _ => rfl) ?_
      refine swV (fun _ => rfl) ?_
      refine swV (fun _ => rfl) ?_
      refine sw_v (ld_agg [.lit (.bool false), s.b, s.c] rfl rfl rfl (leB rfl)) trivial ?_
      refine sw_v (bld_of [_, _, _, _] (fill_cons (u := .lit (.int .i64 s.v)) (l := [_]) rfl (fun _ => rfl) ⟨rfl, leB rfl⟩ rfl (fill_cons (l := [_, _, _]) rfl i'.cells ⟨rfl, leB rfl⟩ rfl fill_nil))) trivial ?_
      refine sw_v (bsl_sh (s := ⟨s.v, .lit (.bool false), s.b, s.c⟩) rfl i' rfl) trivial ?_
      obtain ⟨hB1, hB2, hB3⟩ := hB
      rcases hB3 with ⟨hoe, rfl⟩ | ⟨hoe, bb, rfl, hbb1, hbb2, hg⟩
      · refine sw_hh [] (app_sh0 rfl rfl i') ⟨hsi, by decide, by decide, by decide⟩ ?_
        obtain ⟨w, hw, fw⟩ := fn_addQ (1 + i * 129) 128 (hq.rawB hbt (by omega)) rf hbt.1 hbt.2 nb db (by omega) (K.push (.cells (shs [(⟨s.v, .lit (.bool false), s.b, s.c⟩ : Shr)])))
        rw [Rat.mkRat_self, hqe, ← htt] at hw
        obtain ⟨a', b', c', rfl, iw⟩ := IsQ.three hw
        repeat first | refine swV (fun _ => rfl) ?_ | refine sw_l (fun _ => rfl) trivial ?_ | refine sw_ln (fun _ => rfl) ⟨rfl, leB rfl⟩ ?_ | refine sw_vg rfl (fun _ => rfl) trivial ?_ | refine sw_sk rfl rfl ?_
        refine SW.nil (awp_sw ?_)
        refine sw_v (ld_agg [_, _, _] rfl rfl rfl (leB rfl)) trivial ?_
        refine sw_v (ld_agg [.lit (.bool false), s.b, s.c] rfl rfl rfl (leB rfl)) trivial ?_
        refine sw_call rfl fw ?_
        refine sw_ln (st_agg [_, _, _] rfl rfl iw rfl rfl) ⟨rfl, leB rfl⟩ ?_
        refine SW.nil ?_
        show AWp _ _ _ _ _ _
        refine awp_sw ?_
        refine sw_v (i64_inc rfl rfl (by omega)) trivial ?_
        repeat first | refine swV (fun _ => rfl) ?_ | refine sw_l (fun _ => rfl) trivial ?_ | refine sw_ln (fun _ => rfl) ⟨rfl, leB rfl⟩ ?_ | refine sw_vg rfl (fun _ => rfl) trivial ?_ | refine sw_sk rfl rfl ?_
        refine SW.nil ?_
        refine ⟨⟨(i + 1, (a', b', c'), o ++ [((⟨s.v, .lit (.bool false), s.b, s.c⟩ : Shr), q)], .hs K.next 0 1 4, (K.push (.cells (shs [(⟨s.v, .lit (.bool false), s.b, s.c⟩ : Shr)])))), by dsimp only; omega, hw, hnew, by simp; omega, ?_⟩, by dsimp only; omega, ?_⟩
        rotate_left
        · refine Le.trans (le_drop _ 6) (Le.trans (le_drop _ 7) ?_)
          refine Le.trans (le_loc (L' := [(3, [a', b', c'])]) ?_) (le_sub (sub_cons rfl (sub_cons rfl (sub_cons rfl (sub_cons rfl (sub_cons rfl (sub_nil _)))))))
          intro t
          simp only [Loc.del, Nat.reduceEqDiff, if_false, if_true, Loc.get]
          split <;> rfl
        · have : o = [] := List.map_eq_nil_iff.1 hoe
          subst this
          exact Built.app0 hB1 hB2
      · refine sw_hh [] (app_sh rfl rfl hg rfl i') ⟨hsi, rfl, rfl, by rw [shs_length]; omega, by decide, by simp; omega, by simp; omega⟩ ?_
        obtain ⟨w, hw, fw⟩ := fn_addQ (1 + i * 129) 128 (hq.rawB hbt (by omega)) rf hbt.1 hbt.2 nb db (by omega) ((K.del bb).push (.cells (shs (o.map Prod.fst ++ [(⟨s.v, .lit (.bool false), s.b, s.c⟩ : Shr)]))))
        rw [Rat.mkRat_self, hqe, ← htt] at hw
        obtain ⟨a', b', c', rfl, iw⟩ := IsQ.three hw
        repeat first | refine swV (fun _ => rfl) ?_ | refine sw_l (fun _ => rfl) trivial ?_ | refine sw_ln (fun _ => rfl) ⟨rfl, leB rfl⟩ ?_ | refine sw_vg rfl (fun _ => rfl) trivial ?_ | refine sw_sk rfl rfl ?_
        refine SW.nil (awp_sw ?_)
        refine sw_v (ld_agg [_, _, _] rfl rfl rfl (leB rfl)) trivial ?_
        refine sw_v (ld_agg [.lit (.bool false), s.b, s.c] rfl rfl rfl (leB rfl)) trivial ?_
        refine sw_call rfl fw ?_
        refine sw_ln (st_agg [_, _, _] rfl rfl iw rfl rfl) ⟨rfl, leB rfl⟩ ?_
        refine SW.nil ?_
        show AWp _ _ _ _ _ _
        refine awp_sw ?_
        refine sw_v (i64_inc rfl rfl (by omega)) trivial ?_
        repeat first | refine swV (fun _ => rfl) ?_ | refine sw_l (fun _ => rfl) trivial ?_ | refine sw_ln (fun _ => rfl) ⟨rfl, leB rfl⟩ ?_ | refine sw_vg rfl (fun _ => rfl) trivial ?_ | refine sw_sk rfl rfl ?_
        refine SW.nil ?_
        refine ⟨⟨(i + 1, (a', b', c'), o ++ [((⟨s.v, .lit (.bool false), s.b, s.c⟩ : Shr), q)], .hs K.next 0 ((o.map Prod.fst).length + 1) 4, ((K.del bb).push (.cells (shs (o.map Prod.fst ++ [(⟨s.v, .lit (.bool false), s.b, s.c⟩ : Shr)]))))), by dsimp only; omega, hw, hnew, by simp; omega, ?_⟩, by dsimp only; omega, ?_⟩
        rotate_left
        · refine Le.trans (le_drop _ 6) (Le.trans (le_drop _ 7) ?_)
          refine Le.trans (le_loc (L' := [(3, [a', b', c'])]) ?_) (le_sub (sub_cons rfl (sub_cons rfl (sub_cons rfl (sub_cons rfl (sub_cons rfl (sub_nil _)))))))
          intro t
          simp only [Loc.del, Nat.reduceEqDiff, if_false, if_true, Loc.get]
          split <;> rfl
        · rw [List.map_append]
          exact Built.app hB1 hB2 hbb1
    · obtain rfl : i = l.length := by simp at h; omega
      refine awp_exit ?_
      exact ⟨⟨((a, b, c), o, u, K), hq, ho, by dsimp only; omega, hB⟩, le_sub (sub_cons rfl (sub_cons rfl (sub_nil _)))⟩
  · rintro ⟨⟨⟨a, b, c⟩, o, u, K⟩, hq, ho, hol, hB1, hB2, hB3⟩
    dsimp only at hq ho hol hB1 hB2 hB3 ⊢
    have hraw : ∀ p ∈ o, p.1.raw p.2 := fun p hp => (ho p hp).1
    have hbt := total_bd hraw
    have hT := hq.rawB hbt (by omega)
    have iS : Imms [a, b, c] := by
      obtain ⟨_, _, _, e0, iS⟩ := IsQ.three hq
      injection e0 with e0
      rw [e0]; exact iS
    have fsg := fn_signQ hT hbt.1 (by omega) K
    refine awp_seq_seq_sw ?_
    refine sw_v (ld_agg [_, _, _] rfl rfl rfl (leB rfl)) trivial ?_
    refine sw_call rfl fsg ?_
    repeat first | refine swV (fun _ => rfl) ?_ | refine sw_l (fun _ => rfl) trivial ?_ | refine sw_ln (fun _ => rfl) ⟨rfl, leB rfl⟩ ?_ | refine sw_vg rfl (fun _ => rfl) trivial ?_ | refine sw_sk rfl rfl ?_
    refine SW.nil (awp_cond rfl (fun h => ?_) fun h => awp_skip ?_)
    · refine awp_seq_sw ?_
      repeat first | refine swV (fun _ => rfl) ?_ | refine sw_l (fun _ => rfl) trivial ?_ | refine sw_ln (fun _ => rfl) ⟨rfl, leB rfl⟩ ?_ | refine sw_vg rfl (fun _ => rfl) trivial ?_ | refine sw_sk rfl rfl ?_
      refine SW.nil (awp_ret ?_)
      exact ⟨.inr rfl, _, rfl, rfl, hB1⟩
    have hS : total o ≠ 0 := by
      intro h0
      rw [h0] at h
      exact absurd h (by decide)
    rcases hB3 with ⟨hoe, _⟩ | ⟨hoe, bb, rfl, hbb1, hbb2, hg⟩
    · exact absurd (by rw [List.map_eq_nil_iff.1 hoe]; rfl) hS
    have hfz : Le ⟨[(3, .lp 3 0), (4, .v (.hs bb 0 (o.map Prod.fst).length 4))], [(3, [a, b, c])], K⟩ ⟨[(3, .lp 3 0), (4, .v (.vs (shs (o.map Prod.fst)) (o.map Prod.fst).length))], [(3, [a, b, c])], K.del bb⟩ := by
      have := le_frz (s := ⟨[(3, .lp 3 0), (4, .v (.hs bb 0 (o.map Prod.fst).length 4))], [(3, [a, b, c])], K⟩) hg
      have e : (shs (o.map Prod.fst)).take (o.length * 4) = shs (o.map Prod.fst) := List.take_of_length_le (by rw [shs_length, List.length_map]; omega)
      simpa [Env.frz, T.frz, V.frz, e] using this
    refine awp_le (Le.trans (le_sub (sub_cons rfl (sub_cons rfl (sub_nil _)))) hfz) ?_
    have hK1 : ∀ c, c < H.next → (K.del bb).get c = H.get c := fun c hc => by rw [AH.get_del, if_neg (by omega), hB1 c hc]
    generalize K.del bb = K1 at *
    clear hfz hg fsg hbb1 hbb2 hB1 hB2
    rw [List.length_map]
    obtain ⟨m, m1, m2, m3, fnm⟩ := fn_normal o o.length rfl hol ho hS K1
    have hN : Normed o m := ⟨m1, m2, m3⟩
    have hml : m.length ≤ 8 := by
      rw [hN.len]
      exact Nat.le_trans (List.length_filter_le _ _) hol
    obtain ⟨w1, hw1, f1⟩ := fn_ofQ 0 (by decide) (by decide) K1
    obtain ⟨a1, b1, c1, rfl, i1⟩ := IsQ.three hw1
    refine awp_seq_sw ?_
    repeat first | refine swV (fun _ => rfl) ?_ | refine sw_l (fun _ => rfl) trivial ?_ | refine sw_ln (fun _ => rfl) ⟨rfl, leB rfl⟩ ?_ | refine sw_vg rfl (fun _ => rfl) trivial ?_ | refine sw_sk rfl rfl ?_
    refine sw_call rfl fnm ?_
    repeat first | refine swV (fun _ => rfl) ?_ | refine sw_l (fun _ => rfl) trivial ?_ | refine sw_ln (fun _ => rfl) ⟨rfl, leB rfl⟩ ?_ | refine sw_vg rfl (fun _ => rfl) trivial ?_ | refine sw_sk rfl rfl ?_
    refine SW.nil (awp_seq_sw ?_)
    refine sw_call rfl f1 ?_
    repeat first | refine swV (fun _ => rfl) ?_ | refine sw_l (fun _ => rfl) trivial ?_ | refine sw_ln (fun _ => rfl) ⟨rfl, leB rfl⟩ ?_ | refine sw_vg rfl (fun _ => rfl) trivial ?_ | refine sw_sk rfl rfl ?_
    refine sw_ln (st_agg [_, _, _] rfl rfl i1 rfl rfl) ⟨rfl, leB rfl⟩ ?_
    refine SW.nil (awp_seq_seq_sw ?_)
    repeat first | refine swV (fun _ => rfl) ?_ | refine sw_l (fun _ => rfl) trivial ?_ | refine sw_ln (fun _ => rfl) ⟨rfl, leB rfl⟩ ?_ | refine sw_vg rfl (fun _ => rfl) trivial ?_ | refine sw_sk rfl rfl ?_
    refine SW.nil ?_
    refine awp_join (γ := { p : V × V × V // IsQ (total m) (.agg [p.1, p.2.1, p.2.2]) })
      (fun p => ⟨[(4, .v (.vs (shs (o.map Prod.fst)) o.length)), (8, .v (.vs (shs (m.map Prod.fst)) m.length)), (9, .lp 9 0)], [(9, [p.1.1, p.1.2.1, p.1.2.2])], K1⟩) ?_ ?_
    · refine awp_block ?_
      refine awp_loop (γ := { p : Nat × V × V × V // p.1 ≤ m.length ∧ IsQ (total (m.take p.1)) (.agg [p.2.1, p.2.2.1, p.2.2.2]) })
        (fun p => ⟨[(3, .lp 3 0), (4, .v (.vs (shs (o.map Prod.fst)) o.length)), (8, .v (.vs (shs (m.map Prod.fst)) m.length)), (9, .lp 9 0), (74, .v (.vs (shs (m.map Prod.fst)) m.length)), (75, .v (.lit (.int .i64 (m.length : Int)))), (76, .v (.lit (.int .i64 (p.1.1 : Int))))], [(9, [p.1.2.1, p.1.2.2.1, p.1.2.2.2]), (3, [a, b, c])], K1⟩) (fun p => m.length - p.1.1)
        ⟨(0, a1, b1, c1), Nat.zero_le _, hw1⟩ ?_ ?_
      · dsimp only
        refine Le.trans (le_loc (L' := [(9, [a1, b1, c1]), (3, [a, b, c])]) ?_) (le_sub (sub_cons rfl (sub_cons rfl (sub_cons rfl (sub_cons rfl (sub_cons rfl (sub_cons rfl (sub_cons rfl (sub_nil _)))))))))
        intro t
        simp only [Loc.get]
        split <;> rfl
      rintro ⟨⟨i, x, y, z⟩, hi, hx⟩
      dsimp only at hi hx ⊢
      refine awp_seq_sw ?_
      repeat first | refine swV (fun _ => rfl) ?_ | refine sw_l (fun _ => rfl) trivial ?_ | refine sw_ln (fun _ => rfl) ⟨rfl, leB rfl⟩ ?_ | refine sw_vg rfl (fun _ => rfl) trivial ?_ | refine sw_sk rfl rfl ?_
      refine SW.nil (awp_seq (awp_cond rfl (fun h => ?_) fun h => ?_))
      · have hlt : i < m.length := by simpa using h
        refine awp_skip ?_
        have hpm : m[i] ∈ m := List.getElem_mem hlt
        have hdr := map_drop_cons hlt
        have htk : total (m.take (i + 1)) = total (m.take i) + m[i].2 := by
          rw [List.take_add_one, List.getElem?_eq_getElem hlt, total_append]; simp [total, Rat.add_zero]
        have hprev : ∀ (h0 : 0 < i), (m[i - 1]'(by omega)).1.v ≤ m[i].1.v := fun h0 => by
          have := List.pairwise_iff_getElem.1 m2 (i - 1) i (by simp; omega) (by simpa using hlt) (by omega)
          simpa using this
        have hpd : ∀ (h0 : 0 < i), (m.map Prod.fst).drop (i - 1) = (m[i - 1]'(by omega)).1 :: (m.map Prod.fst).drop (i - 1 + 1) := fun h0 => map_drop_cons (by omega)
        have hlow := m1 m[i] hpm
        have hsz := hN.size hraw hS hpm
        have hps := hN.pos hraw hS hpm
        obtain ⟨x0, hx0, hx1, hx2, hx3⟩ := hN.mem hpm
        generalize hp : m[i] = p at *
        obtain ⟨s, q⟩ := p
        dsimp only at hdr hprev htk hlow hsz hps hx2 hx3
        have him := hlow.im
        have hrW := IsQ.rawB hlow hsz (by omega)
        have fsg := fn_signQ hrW hsz.1 (by omega) K1
        have hsg : sgn q.num = 1 := by
          have h1 := Rat.num_nonneg.2 (Rat.le_of_lt hps)
          have h2 : q.num ≠ 0 := fun h => absurd (Rat.num_eq_zero.1 h) (Rat.ne_of_gt hps)
          simp only [sgn]
          rw [if_neg (by omega), if_neg (by omega)]
        rw [hsg] at fsg
        obtain ⟨s1, hs1, hs2⟩ := hN.bd hraw i
        have hbi : Bd (total (m.take i)) ((1 + i * 129) + (1 + o.length * 129)) := hs2 ▸ hs1.div hbt hS
        obtain ⟨wa, hwa, fa⟩ := fn_addQ ((1 + i * 129) + (1 + o.length * 129)) (128 + (1 + o.length * 129)) (hx.rawB hbi (by omega)) hrW hbi.1 hbi.2 hsz.1 hsz.2 (by omega) K1
        rw [Rat.mkRat_self, Rat.mkRat_self, ← htk] at hwa
        obtain ⟨aa, ab, ac, rfl, ia⟩ := IsQ.three hwa
        obtain ⟨wm, hwm, fm⟩ := fn_mulQ (128 + (1 + o.length * 129)) (1 + o.length * 129) hrW hT hsz.1 hsz.2 hbt.1 hbt.2 (by omega) K1
        rw [Rat.mkRat_self, Rat.mkRat_self] at hwm
        have hqx : q * total o = x0.2 := by rw [hx3, Rat.div_mul_cancel hS]
        have hbm : Bd (q * total o) 128 := hqx ▸ (hraw x0 hx0).bd
        have hrm := hwm.rawB hbm (by omega)
        refine awp_seq (awp_block ?_)
        refine awp_seq_sw ?_
        refine swV (fun _ => rfl) ?_
        refine sw_v (iad_vsh rfl rfl) ⟨by omega, by omega⟩ ?_
        rw [hdr]
        refine sw_v (ld_vsh rfl) trivial ?_
        repeat first | refine swV (fun _ => rfl) ?_ | refine sw_l (fun _ => rfl) trivial ?_ | refine sw_ln (fun _ => rfl) ⟨rfl, leB rfl⟩ ?_ | refine sw_vg rfl (fun _ => rfl) trivial ?_ | refine sw_sk rfl rfl ?_
        refine sw_ln (st_agg [_, _, _, _] rfl rfl (Shr.ims him) rfl rfl) ⟨rfl, leB rfl⟩ ?_
        refine SW.nil ?_
        refine awp_seq_join (γ := Unit) (fun _ => ⟨[(3, .lp 3 0), (4, .v (.vs (shs (o.map Prod.fst)) o.length)), (8, .v (.vs (shs (m.map Prod.fst)) m.length)), (9, .lp 9 0), (11, .lp 11 0), (74, .v (.vs (shs (m.map Prod.fst)) m.length)), (75, .v (.lit (.int .i64 (m.length : Int)))), (76, .v (.lit (.int .i64 (i : Int))))], [(11, s.cs), (9, [x, y, z]), (3, [a, b, c])], K1⟩) ?_ fun _ => ?_
        · refine awp_seq_rw hmix ?_
          refine rw_v' (fun _ => rfl) trivial ?_
          refine rw_v' (fun _ => rfl) trivial ?_
          generalize hg : decide ((i : Int) > 0) = g
          cases g
          · repeat first | refine rw_v' (fun _ => rfl) trivial ?_ | refine rw_l' (fun _ => rfl) trivial ?_ | refine rw_ln' (fun _ => rfl) ⟨rfl, leB rfl⟩ ?_ | refine rw_vg' rfl (fun _ => rfl) trivial ?_ | refine rw_sk' rfl rfl ?_
            refine rw_callg' rfl rfl fsg ?_
            repeat first | refine rw_v' (fun _ => rfl) trivial ?_ | refine rw_l' (fun _ => rfl) trivial ?_ | refine rw_ln' (fun _ => rfl) ⟨rfl, leB rfl⟩ ?_ | refine rw_vg' rfl (fun _ => rfl) trivial ?_ | refine rw_sk' rfl rfl ?_
            refine RW.nil ⟨by kernel_rfl, awp_cond rfl (fun h => by simp at h) fun _ => awp_skip ?_⟩
            refine ⟨(), Le.trans (le_loc (L' := [(11, s.cs), (9, [x, y, z]), (3, [a, b, c])]) ?_) (le_sub (sub_cons rfl (sub_cons rfl (sub_cons rfl (sub_cons rfl (sub_cons rfl (sub_cons rfl (sub_cons rfl (sub_cons rfl (sub_nil _))))))))))⟩
            intro t
            simp only [Loc.get]
            split <;> rfl
          · have h0 : 0 < i := by simp at hg; omega
            have hpd := hpd h0
            have hprev := hprev h0
            generalize hpp : m[i - 1]'(by omega) = pp at *
            refine rw_v' (fun _ => rfl) trivial ?_
            refine rw_vg' rfl (fun _ => rfl) trivial ?_
            refine rw_vg' rfl (fun _ => rfl) trivial ?_
            refine rw_vg' rfl (fun _ => rfl) trivial ?_
            rw [show IntKind.i64.wrap ((i : Int) - 1) = ((i - 1 : Nat) : Int) from by rw [wrap_i64 (by omega) (by omega)]; omega]
            refine rw_vg' rfl (iad_vsh rfl rfl) ⟨by omega, by omega⟩ ?_
            rw [hpd]
            refine rw_vg' rfl (fun _ => rfl) trivial ?_
            refine rw_vg' rfl (ld_vp rfl rfl) trivial ?_
            refine rw_vg' rfl (fun _ => rfl) trivial ?_
            refine rw_vg' rfl (fun _ => rfl) trivial ?_
            refine rw_vg' rfl (fun _ => rfl) trivial ?_
            rw [show decide (pp.1.v > s.v) = false from decide_eq_false (by omega)]
            repeat first | refine rw_v' (fun _ => rfl) trivial ?_ | refine rw_l' (fun _ => rfl) trivial ?_ | refine rw_ln' (fun _ => rfl) ⟨rfl, leB rfl⟩ ?_ | refine rw_vg' rfl (fun _ => rfl) trivial ?_ | refine rw_sk' rfl rfl ?_
            refine rw_callg' rfl rfl fsg ?_
            repeat first | refine rw_v' (fun _ => rfl) trivial ?_ | refine rw_l' (fun _ => rfl) trivial ?_ | refine rw_ln' (fun _ => rfl) ⟨rfl, leB rfl⟩ ?_ | refine rw_vg' rfl (fun _ => rfl) trivial ?_ | refine rw_sk' rfl rfl ?_
            refine RW.nil ⟨by kernel_rfl, awp_cond rfl (fun h => by simp at h) fun _ => awp_skip ?_⟩
            refine ⟨(), Le.trans (le_loc (L' := [(11, s.cs), (9, [x, y, z]), (3, [a, b, c])]) ?_) (le_sub (sub_cons rfl (sub_cons rfl (sub_cons rfl (sub_cons rfl (sub_cons rfl (sub_cons rfl (sub_cons rfl (sub_cons rfl (sub_nil _))))))))))⟩
            intro t
            simp only [Loc.get]
            split <;> rfl
        · refine awp_seq_sw ?_
          refine sw_v (ld_agg [_, _, _] rfl rfl rfl (leB rfl)) trivial ?_
          refine swV (fun _ => rfl) ?_
          refine sw_v (ld_agg [s.a, s.b, s.c] rfl rfl rfl (leB rfl)) trivial ?_
          refine sw_call rfl fa ?_
          refine sw_ln (st_agg [_, _, _] rfl rfl ia rfl rfl) ⟨rfl, leB rfl⟩ ?_
          refine SW.nil (awp_seq_sw ?_)
          repeat first | refine swV (fun _ => rfl) ?_ | refine sw_l (fun _ => rfl) trivial ?_ | refine sw_ln (fun _ => rfl) ⟨rfl, leB rfl⟩ ?_ | refine sw_vg rfl (fun _ => rfl) trivial ?_ | refine sw_sk rfl rfl ?_
          refine SW.nil (awp_seq_seq_sw ?_)
          repeat first | refine swV (fun _ => rfl) ?_ | refine sw_l (fun _ => rfl) trivial ?_ | refine sw_ln (fun _ => rfl) ⟨rfl, leB rfl⟩ ?_ | refine sw_vg rfl (fun _ => rfl) trivial ?_ | refine sw_sk rfl rfl ?_
          refine SW.nil ?_
          refine awp_join (γ := Unit) (fun _ => ⟨[(3, .lp 3 0), (4, .v (.vs (shs (o.map Prod.fst)) o.length)), (8, .v (.vs (shs (m.map Prod.fst)) m.length)), (9, .lp 9 0), (12, .v (.lit (.bool true))), (74, .v (.vs (shs (m.map Prod.fst)) m.length)), (75, .v (.lit (.int .i64 (m.length : Int)))), (76, .v (.lit (.int .i64 (i : Int))))], [(9, [aa, ab, ac]), (3, [a, b, c])], K1⟩) ?_ fun _ => ?_
          · refine awp_block ?_
            refine awp_loop (γ := { j : Nat // j ≤ o.length })
              (fun p => ⟨[(3, .lp 3 0), (4, .v (.vs (shs (o.map Prod.fst)) o.length)), (8, .v (.vs (shs (m.map Prod.fst)) m.length)), (9, .lp 9 0), (11, .lp 11 0), (12, .v (.lit (.bool ((o.take p.1).any fun x => x.1.v == s.v && decide (q * total o = x.2))))), (74, .v (.vs (shs (m.map Prod.fst)) m.length)), (75, .v (.lit (.int .i64 (m.length : Int)))), (76, .v (.lit (.int .i64 (i : Int)))), (104, .v (.vs (shs (o.map Prod.fst)) o.length)), (105, .v (.lit (.int .i64 (o.length : Int)))), (106, .v (.lit (.int .i64 (p.1 : Int))))], [(9, [aa, ab, ac]), (11, s.cs), (3, [a, b, c])], K1⟩) (fun p => o.length - p.1)
              ⟨0, Nat.zero_le _⟩ ?_ ?_
            · dsimp only
              exact le_at [9, 11, 3] (by repeat first | exact trivial | refine ⟨rfl, ?_⟩) (by repeat first | exact trivial | refine ⟨rfl, ?_⟩) rfl rfl
            rintro ⟨j, hj⟩
            dsimp only
            refine awp_seq_sw ?_
            repeat first | refine swV (fun _ => rfl) ?_ | refine sw_l (fun _ => rfl) trivial ?_ | refine sw_ln (fun _ => rfl) ⟨rfl, leB rfl⟩ ?_ | refine sw_vg rfl (fun _ => rfl) trivial ?_ | refine sw_sk rfl rfl ?_
            refine SW.nil (awp_seq (awp_cond rfl (fun h => ?_) fun h => ?_))
            · have hjl : j < o.length := by simpa using h
              refine awp_skip ?_
              obtain ⟨hr, hv1, hv2⟩ := ho o[j] (List.getElem_mem hjl)
              have hdo := map_drop_cons hjl
              have hany : ((o.take (j + 1)).any fun x => x.1.v == s.v && decide (q * total o = x.2)) = (((o.take j).any fun x => x.1.v == s.v && decide (q * total o = x.2)) || (o[j].1.v == s.v && decide (q * total o = o[j].2))) := by
                rw [List.take_add_one, List.getElem?_eq_getElem hjl, List.any_append]; simp
              generalize hpe : o[j] = pe at *
              obtain ⟨s', q'⟩ := pe
              dsimp only at hr hv1 hv2 hdo hany
              have him' := hr.im
              obtain ⟨N', D', rf', n0', nb', db', e'⟩ := hr.rfrac
              have fsm := fn_sameQ 128 128 hrm rf' hbm.1 hbm.2 nb' db' (by omega) K1
              rw [Rat.mkRat_self, e'] at fsm
              generalize ((o.take j).any fun x => x.1.v == s.v && decide (q * total o = x.2)) = th at *
              refine awp_seq_join (γ := Unit) (fun _ => ⟨[(3, .lp 3 0), (4, .v (.vs (shs (o.map Prod.fst)) o.length)), (8, .v (.vs (shs (m.map Prod.fst)) m.length)), (9, .lp 9 0), (11, .lp 11 0), (12, .v (.lit (.bool (th || (s'.v == s.v && decide (q * total o = q')))))), (74, .v (.vs (shs (m.map Prod.fst)) m.length)), (75, .v (.lit (.int .i64 (m.length : Int)))), (76, .v (.lit (.int .i64 (i : Int)))), (104, .v (.vs (shs (o.map Prod.fst)) o.length)), (105, .v (.lit (.int .i64 (o.length : Int)))), (106, .v (.lit (.int .i64 (j : Int))))], [(9, [aa, ab, ac]), (11, s.cs), (3, [a, b, c])], K1⟩) ?_ fun _ => ?_
              rotate_left
              · show AWp _ _ _ _ _ _
                refine awp_sw ?_
                refine sw_v (i64_inc rfl rfl (by omega)) trivial ?_
                repeat first | refine swV (fun _ => rfl) ?_ | refine sw_l (fun _ => rfl) trivial ?_ | refine sw_ln (fun _ => rfl) ⟨rfl, leB rfl⟩ ?_ | refine sw_vg rfl (fun _ => rfl) trivial ?_ | refine sw_sk rfl rfl ?_
                refine SW.nil ?_
                refine ⟨⟨j + 1, by omega⟩, by dsimp only; omega, ?_⟩
                dsimp only
                rw [hany]
                exact le_at [9, 11, 3] (by repeat first | exact trivial | refine ⟨rfl, ?_⟩) (by repeat first | exact trivial | refine ⟨rfl, ?_⟩) rfl rfl
              refine awp_block ?_
              refine awp_seq_sw ?_
              refine sw_v (iad_vsh rfl rfl) ⟨by omega, by omega⟩ ?_
              rw [hdo]
              refine sw_v (ld_vsh rfl) trivial ?_
              repeat first | refine swV (fun _ => rfl) ?_ | refine sw_l (fun _ => rfl) trivial ?_ | refine sw_ln (fun _ => rfl) ⟨rfl, leB rfl⟩ ?_ | refine sw_vg rfl (fun _ => rfl) trivial ?_ | refine sw_sk rfl rfl ?_
              refine sw_ln (st_agg [_, _, _, _] rfl rfl (Shr.ims him') rfl rfl) ⟨rfl, leB rfl⟩ ?_
              refine SW.nil ?_
              refine awp_le (le_at [9, 11, 3, 14] (A' := [(3, .lp 3 0), (4, .v (.vs (shs (o.map Prod.fst)) o.length)), (8, .v (.vs (shs (m.map Prod.fst)) m.length)), (9, .lp 9 0), (11, .lp 11 0), (14, .lp 14 0), (12, .v (.lit (.bool th))), (74, .v (.vs (shs (m.map Prod.fst)) m.length)), (75, .v (.lit (.int .i64 (m.length : Int)))), (76, .v (.lit (.int .i64 (i : Int)))), (104, .v (.vs (shs (o.map Prod.fst)) o.length)), (105, .v (.lit (.int .i64 (o.length : Int)))), (106, .v (.lit (.int .i64 (j : Int))))]) (L' := [(14, s'.cs), (9, [aa, ab, ac]), (11, s.cs), (3, [a, b, c])]) (by repeat first | exact trivial | refine ⟨rfl, ?_⟩) (by repeat first | exact trivial | refine ⟨rfl, ?_⟩) rfl rfl) ?_
              · show AWp _ _ _ _ _ _
                refine awp_rw hmix ?_
                refine rw_v' (fun _ => rfl) trivial ?_
                refine rw_v' (fun _ => rfl) trivial ?_
                cases th
                · refine rw_vg' rfl (fun _ => rfl) trivial ?_
                  refine rw_vg' rfl (fun _ => rfl) trivial ?_
                  refine rw_vg' rfl (fun _ => rfl) trivial ?_
                  refine rw_vg' rfl (fun _ => rfl) trivial ?_
                  refine rw_vg' rfl (fun _ => rfl) trivial ?_
                  generalize (s'.v == s.v) = bv
                  cases bv
                  · repeat first | refine rw_v' (fun _ => rfl) trivial ?_ | refine rw_l' (fun _ => rfl) trivial ?_ | refine rw_ln' (fun _ => rfl) ⟨rfl, leB rfl⟩ ?_ | refine rw_vg' rfl (fun _ => rfl) trivial ?_ | refine ru_v rfl rfl ?_ | refine ru_u rfl ?_
                    refine RW.nil ⟨by kernel_rfl, ?_⟩
                    show ∃ _, _
                    exact ⟨(), Le.trans (le_drop _ 14) (le_at [9, 11, 3] (by repeat first | exact trivial | refine ⟨rfl, ?_⟩) (by repeat first | exact trivial | refine ⟨rfl, ?_⟩) rfl rfl)⟩
                  · refine rw_vg' rfl (fun _ => rfl) trivial ?_
                    refine rw_vg' rfl (fun _ => rfl) trivial ?_
                    refine rw_vg' rfl (fun _ => rfl) trivial ?_
                    refine rw_vg' rfl (fun _ => rfl) trivial ?_
                    refine rw_callg' rfl rfl fm ?_
                    refine rw_vg' rfl (fun _ => rfl) trivial ?_
                    refine rw_vg' rfl (fun _ => rfl) trivial ?_
                    refine rw_callg' rfl rfl fsm ?_
                    repeat first | refine rw_v' (fun _ => rfl) trivial ?_ | refine rw_l' (fun _ => rfl) trivial ?_ | refine rw_ln' (fun _ => rfl) ⟨rfl, leB rfl⟩ ?_ | refine rw_vg' rfl (fun _ => rfl) trivial ?_ | refine ru_v rfl rfl ?_ | refine ru_u rfl ?_
                    refine RW.nil ⟨by kernel_rfl, ?_⟩
                    show ∃ _, _
                    exact ⟨(), Le.trans (le_drop _ 14) (le_at [9, 11, 3] (by repeat first | exact trivial | refine ⟨rfl, ?_⟩) (by repeat first | exact trivial | refine ⟨rfl, ?_⟩) rfl rfl)⟩
                · repeat first | refine rw_v' (fun _ => rfl) trivial ?_ | refine rw_l' (fun _ => rfl) trivial ?_ | refine rw_ln' (fun _ => rfl) ⟨rfl, leB rfl⟩ ?_ | refine rw_vg' rfl (fun _ => rfl) trivial ?_ | refine ru_v rfl rfl ?_ | refine ru_u rfl ?_
                  refine RW.nil ⟨by kernel_rfl, ?_⟩
                  show ∃ _, _
                  exact ⟨(), Le.trans (le_drop _ 14) (le_at [9, 11, 3] (by repeat first | exact trivial | refine ⟨rfl, ?_⟩) (by repeat first | exact trivial | refine ⟨rfl, ?_⟩) rfl rfl)⟩
            · obtain rfl : j = o.length := by simp at h; omega
              refine awp_exit ?_
              refine ⟨(), Le.trans (le_drop _ 11) ?_⟩
              have : ((o.take o.length).any fun x => x.1.v == s.v && decide (q * total o = x.2)) = true := by
                rw [List.take_length]
                refine List.any_eq_true.2 ⟨x0, hx0, ?_⟩
                simp [hx2, hqx]
              rw [this]
              exact le_at [9, 3] (by repeat first | exact trivial | refine ⟨rfl, ?_⟩) (by repeat first | exact trivial | refine ⟨rfl, ?_⟩) rfl rfl
          · refine awp_seq_sw ?_
            repeat first | refine swV (fun _ => rfl) ?_ | refine sw_l (fun _ => rfl) trivial ?_ | refine sw_ln (fun _ => rfl) ⟨rfl, leB rfl⟩ ?_ | refine sw_vg rfl (fun _ => rfl) trivial ?_ | refine sw_sk rfl rfl ?_
            refine SW.nil (awp_cond rfl (fun h => by simp at h) fun _ => awp_skip ?_)
            show AWp _ _ _ _ _ _
            refine awp_sw ?_
            refine sw_v (i64_inc rfl rfl (by omega)) trivial ?_
            repeat first | refine swV (fun _ => rfl) ?_ | refine sw_l (fun _ => rfl) trivial ?_ | refine sw_ln (fun _ => rfl) ⟨rfl, leB rfl⟩ ?_ | refine sw_vg rfl (fun _ => rfl) trivial ?_ | refine sw_sk rfl rfl ?_
            refine SW.nil ?_
            exact ⟨⟨(i + 1, aa, ab, ac), by dsimp only; omega, hwa⟩, by dsimp only; omega, le_at [9, 3] (by repeat first | exact trivial | refine ⟨rfl, ?_⟩) (by repeat first | exact trivial | refine ⟨rfl, ?_⟩) rfl rfl⟩
      · obtain rfl : i = m.length := by simp at h; omega
        refine awp_exit ?_
        rw [List.take_length] at hx
        exact ⟨⟨(x, y, z), hx⟩, Le.trans (le_drop _ 3) (le_at [9] (by repeat first | exact trivial | refine ⟨rfl, ?_⟩) (by repeat first | exact trivial | refine ⟨rfl, ?_⟩) rfl rfl)⟩
    · rintro ⟨⟨x, y, z⟩, hx⟩
      dsimp only at hx ⊢
      have ix : Imms [x, y, z] := by
        obtain ⟨_, _, _, e0, iS⟩ := IsQ.three hx
        injection e0 with e0
        rw [e0]; exact iS
      refine awp_seq_sw ?_
      repeat first | refine swV (fun _ => rfl) ?_ | refine sw_l (fun _ => rfl) trivial ?_ | refine sw_ln (fun _ => rfl) ⟨rfl, leB rfl⟩ ?_ | refine sw_vg rfl (fun _ => rfl) trivial ?_ | refine sw_sk rfl rfl ?_
      refine SW.nil (awp_seq_seq_sw ?_)
      repeat first | refine swV (fun _ => rfl) ?_ | refine sw_l (fun _ => rfl) trivial ?_ | refine sw_ln (fun _ => rfl) ⟨rfl, leB rfl⟩ ?_ | refine sw_vg rfl (fun _ => rfl) trivial ?_ | refine sw_sk rfl rfl ?_
      refine SW.nil ?_
      refine awp_join (γ := Unit) (fun _ => ⟨[(8, .v (.vs (shs (m.map Prod.fst)) m.length)), (9, .lp 9 0), (15, .v (.lit (.int .i64 (m.length : Int))))], [(9, [x, y, z])], K1⟩) ?_ fun _ => ?_
      · refine awp_block ?_
        refine awp_loop (γ := { j : Nat // j ≤ o.length })
          (fun p => ⟨[(8, .v (.vs (shs (m.map Prod.fst)) m.length)), (9, .lp 9 0), (15, .v (.lit (.int .i64 (((o.take p.1).filter fun x => decide (x.2 ≠ 0)).length : Int)))), (131, .v (.vs (shs (o.map Prod.fst)) o.length)), (132, .v (.lit (.int .i64 (o.length : Int)))), (133, .v (.lit (.int .i64 (p.1 : Int))))], [(9, [x, y, z])], K1⟩) (fun p => o.length - p.1)
          ⟨0, Nat.zero_le _⟩ (le_at [9] (by repeat first | exact trivial | refine ⟨rfl, ?_⟩) (by repeat first | exact trivial | refine ⟨rfl, ?_⟩) rfl rfl) ?_
        rintro ⟨j, hj⟩
        dsimp only
        refine awp_seq_sw ?_
        repeat first | refine swV (fun _ => rfl) ?_ | refine sw_l (fun _ => rfl) trivial ?_ | refine sw_ln (fun _ => rfl) ⟨rfl, leB rfl⟩ ?_ | refine sw_vg rfl (fun _ => rfl) trivial ?_ | refine sw_sk rfl rfl ?_
        refine SW.nil (awp_seq (awp_cond rfl (fun h => ?_) fun h => ?_))
        · have hjl : j < o.length := by simpa using h
          refine awp_skip ?_
          obtain ⟨hr, hv1, hv2⟩ := ho o[j] (List.getElem_mem hjl)
          have hdo := map_drop_cons hjl
          have hct : (o.take (j + 1)).filter (fun x => decide (x.2 ≠ 0)) = (o.take j).filter (fun x => decide (x.2 ≠ 0)) ++ (if o[j].2 = 0 then [] else [o[j]]) := by
            rw [List.take_add_one, List.getElem?_eq_getElem hjl, List.filter_append]
            by_cases h0 : o[j].2 = 0 <;> simp [h0]
          have hcl : ((o.take j).filter fun x => decide (x.2 ≠ 0)).length ≤ 8 := Nat.le_trans (List.length_filter_le _ _) (by simp; omega)
          generalize hpe : o[j] = pe at *
          obtain ⟨s', q'⟩ := pe
          dsimp only at hr hv1 hv2 hdo hct
          have him' := hr.im
          obtain ⟨N', D', rf', n0', nb', db', e'⟩ := hr.rfrac
          have fsg := fn_signQ rf' nb' (by omega) K1
          generalize (o.take j).filter (fun x => decide (x.2 ≠ 0)) = ct at *
          refine awp_seq_join (γ := Unit) (fun _ => ⟨[(8, .v (.vs (shs (m.map Prod.fst)) m.length)), (9, .lp 9 0), (15, .v (.lit (.int .i64 ((ct ++ if q' = 0 then [] else [(s', q')]).length : Int)))), (131, .v (.vs (shs (o.map Prod.fst)) o.length)), (132, .v (.lit (.int .i64 (o.length : Int)))), (133, .v (.lit (.int .i64 (j : Int))))], [(9, [x, y, z])], K1⟩) ?_ fun _ => ?_
          · refine awp_block ?_
            refine awp_seq_sw ?_
            refine sw_v (iad_vsh rfl rfl) ⟨by omega, by omega⟩ ?_
            rw [hdo]
            refine sw_v (ld_vsh rfl) trivial ?_
            repeat first | refine swV (fun _ => rfl) ?_ | refine sw_l (fun _ => rfl) trivial ?_ | refine sw_ln (fun _ => rfl) ⟨rfl, leB rfl⟩ ?_ | refine sw_vg rfl (fun _ => rfl) trivial ?_ | refine sw_sk rfl rfl ?_
            refine sw_ln (st_agg [_, _, _, _] rfl rfl (Shr.ims him') rfl rfl) ⟨rfl, leB rfl⟩ ?_
            refine SW.nil (awp_seq_sw ?_)
            refine swV (fun _ => rfl) ?_
            refine swV (fun _ => rfl) ?_
            refine sw_call rfl fsg ?_
            repeat first | refine swV (fun _ => rfl) ?_ | refine sw_l (fun _ => rfl) trivial ?_ | refine sw_ln (fun _ => rfl) ⟨rfl, leB rfl⟩ ?_ | refine sw_vg rfl (fun _ => rfl) trivial ?_ | refine sw_sk rfl rfl ?_
            refine SW.nil (awp_cond rfl (fun hc => ?_) fun hc => ?_)
            · have hN0 : N' ≠ 0 := by rintro rfl; simp [sgn] at hc
              have hq0 : q' ≠ 0 := by rw [← e']; exact (Rat.mkRat_ne_zero (by have := rf'.pos; omega)).2 hN0
              refine awp_sw ?_
              refine swV (fun _ => rfl) ?_
              refine sw_v (i64_inc rfl rfl (by omega)) trivial ?_
              repeat first | refine swV (fun _ => rfl) ?_ | refine sw_l (fun _ => rfl) trivial ?_ | refine sw_ln (fun _ => rfl) ⟨rfl, leB rfl⟩ ?_ | refine sw_vg rfl (fun _ => rfl) trivial ?_ | refine sw_sk rfl rfl ?_
              refine SW.nil ⟨(), Le.trans (le_drop _ 17) ?_⟩
              rw [if_neg hq0, List.length_append]
              exact le_at [9] (by repeat first | exact trivial | refine ⟨rfl, ?_⟩) (by repeat first | exact trivial | refine ⟨rfl, ?_⟩) rfl rfl
            · have hN0 : N' = 0 := by
                have : sgn N' ≤ 0 := by simpa using hc
                simp only [sgn] at this
                split at this
                · omega
                · split at this <;> omega
              have hq0 : q' = 0 := by rw [← e']; exact (Rat.mkRat_eq_zero (by have := rf'.pos; omega)).2 hN0
              refine awp_skip ⟨(), Le.trans (le_drop _ 17) ?_⟩
              rw [if_pos hq0, List.append_nil]
              exact le_at [9] (by repeat first | exact trivial | refine ⟨rfl, ?_⟩) (by repeat first | exact trivial | refine ⟨rfl, ?_⟩) rfl rfl
          · show AWp _ _ _ _ _ _
            refine awp_sw ?_
            refine sw_v (i64_inc rfl rfl (by omega)) trivial ?_
            repeat first | refine swV (fun _ => rfl) ?_ | refine sw_l (fun _ => rfl) trivial ?_ | refine sw_ln (fun _ => rfl) ⟨rfl, leB rfl⟩ ?_ | refine sw_vg rfl (fun _ => rfl) trivial ?_ | refine sw_sk rfl rfl ?_
            refine SW.nil ?_
            refine ⟨⟨j + 1, by omega⟩, by dsimp only; omega, ?_⟩
            dsimp only
            rw [hct]
            exact le_at [9] (by repeat first | exact trivial | refine ⟨rfl, ?_⟩) (by repeat first | exact trivial | refine ⟨rfl, ?_⟩) rfl rfl
        · obtain rfl : j = o.length := by simp at h; omega
          refine awp_exit ?_
          refine ⟨(), ?_⟩
          rw [List.take_length, ← hN.len]
          exact le_at [9] (by repeat first | exact trivial | refine ⟨rfl, ?_⟩) (by repeat first | exact trivial | refine ⟨rfl, ?_⟩) rfl rfl
      · obtain ⟨w2, hw2, f2⟩ := fn_ofQ 1 (by decide) (by decide) K1
        rw [hN.one hS] at hx
        have fsm := fn_sameQ 64 64 (hx.rawB (a := 64) (Bd.int (z := 1) (by decide) (by decide)) (by omega)) (hw2.rawB (a := 64) (Bd.int (z := 1) (by decide) (by decide)) (by omega)) (by decide) (by decide) (by decide) (by decide) (by omega) K1
        rw [Rat.mkRat_self, Rat.mkRat_self, show decide ((1 : Rat) = ((1 : Int) : Rat)) = true from rfl] at fsm
        refine awp_seq_rw hmix ?_
        refine rw_v' (fun _ => rfl) trivial ?_
        refine rw_v' (fun _ => rfl) trivial ?_
        refine rw_v' (fun _ => rfl) trivial ?_
        refine rw_v' (fun _ => rfl) trivial ?_
        rw [show ((m.length : Int) == (m.length : Int)) = true from by simp]
        refine rw_v' (fun _ => rfl) trivial ?_
        refine rw_vg' rfl (fun _ => rfl) trivial ?_
        refine rw_callg' rfl rfl f2 ?_
        refine rw_callg' rfl rfl fsm ?_
        repeat first | refine rw_v' (fun _ => rfl) trivial ?_ | refine rw_l' (fun _ => rfl) trivial ?_ | refine rw_ln' (fun _ => rfl) ⟨rfl, leB rfl⟩ ?_ | refine rw_vg' rfl (fun _ => rfl) trivial ?_ | refine rw_sk' rfl rfl ?_
        refine RW.nil ⟨by kernel_rfl, awp_ret ?_⟩
        exact ⟨.inr rfl, _, rfl, rfl, hK1⟩
end Iso
