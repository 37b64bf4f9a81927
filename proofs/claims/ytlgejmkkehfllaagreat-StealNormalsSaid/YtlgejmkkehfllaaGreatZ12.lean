import Derived.Test.YtlgejmkkehfllaaGreatZ11
import Derived.Test.YtlgejmkkehfllaaGreatZ9
/- Taking a multiple away, giving it back: mag.take, mag.give. -/
namespace Iso
open Go Go.Proofs
/-- One digit more taken. -/
theorem take_digit {p c u bo : Nat} (hc : c < B64) (hu : u < B64) (hb : bo ≤ 1) :
    (u + B64 - (p % B64 + c + 0) % B64 - bo) % B64 + ((p % B64 + c + 0) % B64 + bo) = u + B64 * (if u < (p % B64 + c + 0) % B64 + bo then 1 else 0) ∧
    p + c = (p % B64 + c + 0) % B64 + B64 * (p / B64 + (p % B64 + c + 0) / B64) := by
  refine ⟨?_, ?_⟩
  · have hl := Nat.mod_lt (p % B64 + c + 0) (show 0 < B64 by decide)
    generalize (p % B64 + c + 0) % B64 = lo at *
    by_cases h : u < lo + bo
    · rw [if_pos h]; simp only [B64] at *; omega
    · rw [if_neg h]; simp only [B64] at *; omega
  · simp only [B64] at *; omega
theorem sbbE {ev : Opd → T} {Lg : Nat → Option (List V)} {d : Option Nat} {x y c : Opd} {p q r : Nat} (s t : Nat) (hx : ev x = .v (.lit (.int .u64 (p : Int)))) (hy : ev y = .v (.lit (.int .u64 (q : Int)))) (hc : ev c = .v (.lit (.int .u64 (r : Int)))) (hp : p < B64) (hq : q < B64) (hr : r ≤ 1)
    (e1 : (p + B64 - q - r) % B64 = s) (e2 : (if p < q + r then 1 else 0) = t) :
    ∀ H, aopE [] d (.sbb x y c) ev Lg H = some ⟨0 ≤ (p : Int) ∧ 0 ≤ (q : Int) ∧ 0 ≤ (r : Int) ∧ (r : Int) ≤ 1 ∧ (p : Int) < 18446744073709551616 ∧ (q : Int) < 18446744073709551616,
      .v (.tup [.lit (.int .u64 (s : Int)), .lit (.int .u64 (t : Int))]), {}⟩ := by
  subst e1 e2; exact sbb_nat hx hy hc hp hq hr
theorem take_carry {p q c : Nat} (hp : p < B64) (hq : q < B64) (hc : c < B64) : p * q / B64 + (p * q % B64 + c + 0) / B64 < B64 :=
  (mul_step hp hq hc (s := 0) (by decide)).1
theorem win_set {pre post : List Nat} {a : List Nat} {o i : Nat} (z : List Nat) (x e : Nat) (h : pre.length = o) (ha : a.length = i) :
    (pre ++ (a ++ x :: z) ++ post).set (o + i) e = pre ++ ((a ++ [e]) ++ z) ++ post := by
  rw [List.append_assoc, List.set_append_right _ _ (by omega), show o + i - pre.length = i by omega, List.set_append_left _ _ (by simp; omega), set_at ha]; simp only [List.append_assoc]
/-- 'mag.take'. -/
theorem fn_take (pre w post vs : List Nat) (b o n q : Nat) (hw : w.length = n + 1) (hv : vs.length = n) (hn0 : 0 < n) (ho : pre.length = o) (dw : Dig w) (dv : Dig vs) (hq : q < B64) (hn : n < 2 ^ 40)
    (H : AH) (hb : H.get b = some (.cells (digV (pre ++ w ++ post)))) :
    ∃ w' bo, w'.length = n + 1 ∧ Dig w' ∧ bo ≤ 1 ∧ val w' + q * val vs = val w + B64 ^ (n + 1) * bo ∧
      FN Tryz.prog 153 [.hs b o (n + 1) 1, .vs (digV vs) n, .lit (.int .u64 (q : Int))] H (.lit (.bool (decide (0 < bo)))) (H.set b (.cells (digV (pre ++ w' ++ post)))) := by
  suffices h : ∃ v' H', FN Tryz.prog 153 [.hs b o (n + 1) 1, .vs (digV vs) n, .lit (.int .u64 (q : Int))] H v' H' ∧ (∃ w' bo, v' = .lit (.bool (decide (0 < bo))) ∧ H' = H.set b (.cells (digV (pre ++ w' ++ post))) ∧ w'.length = n + 1 ∧ Dig w' ∧ bo ≤ 1 ∧ val w' + q * val vs = val w + B64 ^ (n + 1) * bo) by
    obtain ⟨v', H', h1, w', bo, rfl, rfl, h2, h3, h4, h5⟩ := h
    exact ⟨w', bo, h2, h3, h4, h5, h1⟩
  refine fn_of cf153 (by simp) ?_
  show AWp _ _ _ ac153 _ _
  unfold ac153
  refine awp_seq_sw ?_
  repeat first | refine swV (fun _ => rfl) ?_ | refine sw_l (fun _ => rfl) trivial ?_ | refine sw_ln (fun _ => rfl) ⟨rfl, leB rfl⟩ ?_ | refine sw_vg rfl (fun _ => rfl) trivial ?_ | refine sw_sk rfl rfl ?_
  refine SW.nil (awp_seq_sw ?_)
  repeat first | refine swV (fun _ => rfl) ?_ | refine sw_l (fun _ => rfl) trivial ?_ | refine sw_ln (fun _ => rfl) ⟨rfl, leB rfl⟩ ?_ | refine sw_vg rfl (fun _ => rfl) trivial ?_ | refine sw_sk rfl rfl ?_
  refine SW.nil (awp_seq_seq_sw ?_)
  repeat first | refine swV (fun _ => rfl) ?_ | refine sw_l (fun _ => rfl) trivial ?_ | refine sw_ln (fun _ => rfl) ⟨rfl, leB rfl⟩ ?_ | refine sw_vg rfl (fun _ => rfl) trivial ?_ | refine sw_sk rfl rfl ?_
  refine SW.nil (awp_block ?_)
  refine awp_loop (γ := { p : Nat × List Nat × Nat × Nat // p.1 ≤ n ∧ p.2.1.length = p.1 ∧ Dig p.2.1 ∧ p.2.2.1 < B64 ∧ p.2.2.2 ≤ 1 ∧ val p.2.1 + q * val (vs.take p.1) = val (w.take p.1) + B64 ^ p.1 * (p.2.2.1 + p.2.2.2) })
    (fun p => ⟨[(0, .v (.hs b o (n + 1) 1)), (1, .v (.vs (digV vs) n)), (2, .v (.lit (.int .u64 (q : Int)))), (7, .v (.lit (.int .u64 (p.1.2.2.1 : Int)))), (8, .v (.lit (.int .u64 (p.1.2.2.2 : Int)))), (15, .v (.vs (digV vs) n)), (16, .v (.lit (.int .i64 (n : Int)))), (17, .v (.lit (.int .i64 (p.1.1 : Int))))], [],
      H.set b (.cells (digV (pre ++ (p.1.2.1 ++ w.drop p.1.1) ++ post)))⟩) (fun p => n - p.1.1)
    ⟨(0, [], 0, 0), Nat.zero_le _, rfl, Dig.nil, by decide, by decide, by simp [val]⟩ ?_ ?_
  · dsimp only
    rw [List.nil_append, List.drop_zero, AH.set_self hb]
    exact le_sub (sub_cons rfl (sub_cons rfl (sub_cons rfl (sub_cons rfl (sub_cons rfl (sub_cons rfl (sub_cons rfl (sub_cons rfl (sub_nil _)))))))))
  rintro ⟨⟨i, a, c, bo⟩, hi, ha, da, hc, hbo, e⟩
  dsimp only at hi ha da hc hbo e ⊢
  refine awp_seq_sw ?_
  repeat first | refine swV (fun _ => rfl) ?_ | refine sw_l (fun _ => rfl) trivial ?_ | refine sw_ln (fun _ => rfl) ⟨rfl, leB rfl⟩ ?_ | refine sw_vg rfl (fun _ => rfl) trivial ?_ | refine sw_sk rfl rfl ?_
  refine SW.nil (awp_seq (awp_cond rfl (fun h => ?_) fun h => ?_))
  · have hlt : i < n := by simpa using h
    refine awp_skip ?_
    have hvi : vs.drop i = vs[i] :: vs.drop (i + 1) := (List.getElem_cons_drop (by omega)).symm
    have hwi : w.drop i = w[i] :: w.drop (i + 1) := (List.getElem_cons_drop (by omega)).symm
    have hp := dv vs[i] (List.getElem_mem (by omega))
    have hu := dw w[i] (List.getElem_mem (by omega))
    obtain ⟨t1, t2⟩ := take_digit (p := q * vs[i]) hc hu hbo
    have t3 := take_carry hq hp hc
    have tv : val (vs.take (i + 1)) = _ := take_getD
    have tw : val (w.take (i + 1)) = _ := take_getD
    rw [show vs.getD i 0 = vs[i] by simp [List.getD_eq_getElem?_getD, show i < vs.length by omega]] at tv
    rw [show w.getD i 0 = w[i] by simp [List.getD_eq_getElem?_getD, show i < w.length by omega]] at tw
    generalize hvx : vs[i] = vi at *
    generalize hwx : w[i] = wi at *
    have wg : (pre ++ (a ++ wi :: w.drop (i + 1)) ++ post)[o + i]? = some wi := by
      rw [List.append_assoc, List.getElem?_append_right (by omega), show o + i - pre.length = i by omega, List.append_assoc, List.getElem?_append_right (by omega), ha, Nat.sub_self]; rfl
    obtain ⟨bo', hbo'⟩ : ∃ x, (if wi < (q * vi % B64 + c + 0) % B64 + bo then 1 else 0) = x := ⟨_, rfl⟩
    obtain ⟨u', hu'⟩ : ∃ x, (wi + B64 - (q * vi % B64 + c + 0) % B64 - bo) % B64 = x := ⟨_, rfl⟩
    have hb1 : bo' ≤ 1 := by rw [← hbo']; split <;> decide
    have hub : u' < B64 := by rw [← hu']; exact Nat.mod_lt _ (by decide)
    rw [hbo', hu'] at t1
    rw [hwi]
    refine awp_seq (awp_block ?_)
    refine awp_seq_sw ?_
    refine swV (fun _ => rfl) ?_
    refine sw_v (iad_dig _ _ rfl rfl hvi) ⟨by omega, by omega⟩ ?_
    repeat first | refine swV (fun _ => rfl) ?_ | refine sw_l (fun _ => rfl) trivial ?_ | refine sw_ln (fun _ => rfl) ⟨rfl, leB rfl⟩ ?_ | refine sw_vg rfl (fun _ => rfl) trivial ?_ | refine sw_sk rfl rfl ?_
    refine SW.nil (awp_seq_sw ?_)
    refine swV (fun _ => rfl) ?_
    refine swV (fun _ => rfl) ?_
    refine sw_call rfl (fn_mul64 q vi hq hp _) ?_
    repeat first | refine swV (fun _ => rfl) ?_ | refine sw_l (fun _ => rfl) trivial ?_ | refine sw_ln (fun _ => rfl) ⟨rfl, leB rfl⟩ ?_ | refine sw_vg rfl (fun _ => rfl) trivial ?_ | refine sw_sk rfl rfl ?_
    refine SW.nil (awp_seq_sw ?_)
    repeat first | refine swV (fun _ => rfl) ?_ | refine sw_l (fun _ => rfl) trivial ?_ | refine sw_ln (fun _ => rfl) ⟨rfl, leB rfl⟩ ?_ | refine sw_vg rfl (fun _ => rfl) trivial ?_ | refine sw_sk rfl rfl ?_
    refine SW.nil (awp_seq_sw ?_)
    refine swV (fun _ => rfl) ?_
    refine swV (fun _ => rfl) ?_
    refine sw_v (adc_nat (r := 0) rfl rfl rfl) ⟨by omega, by omega, by omega, by omega⟩ ?_
    repeat first | refine swV (fun _ => rfl) ?_ | refine sw_l (fun _ => rfl) trivial ?_ | refine sw_ln (fun _ => rfl) ⟨rfl, leB rfl⟩ ?_ | refine sw_vg rfl (fun _ => rfl) trivial ?_ | refine sw_sk rfl rfl ?_
    refine SW.nil (awp_seq_sw ?_)
    refine swV (fun _ => rfl) ?_
    refine swV (fun _ => rfl) ?_
    refine sw_v (u64_add rfl rfl t3) trivial ?_
    repeat first | refine swV (fun _ => rfl) ?_ | refine sw_l (fun _ => rfl) trivial ?_ | refine sw_ln (fun _ => rfl) ⟨rfl, leB rfl⟩ ?_ | refine sw_vg rfl (fun _ => rfl) trivial ?_ | refine sw_sk rfl rfl ?_
    refine SW.nil (awp_sw ?_)
    refine swV (fun _ => rfl) ?_
    refine swV (fun _ => rfl) ?_
    refine swV (fun _ => rfl) ?_
    refine swV (fun _ => rfl) ?_
    refine sw_v (iad_hso rfl rfl) ⟨by omega, by omega, rfl⟩ ?_
    refine sw_hv [] (ld_dig (e := wi) rfl (AH.set_get _ _ _) wg) trivial ?_
    refine swV (fun _ => rfl) ?_
    refine swV (fun _ => rfl) ?_
    refine sw_v (sbbE u' bo' rfl rfl rfl hu (Nat.mod_lt _ (by decide)) hbo hu' hbo') ⟨by omega, by omega, by omega, by omega, by simp only [B64] at hu; omega, by have := Nat.mod_lt (q * vi % B64 + c + 0) (show 0 < B64 by decide); simp only [B64] at this ⊢; omega⟩ ?_
    repeat first | refine swV (fun _ => rfl) ?_ | refine sw_l (fun _ => rfl) trivial ?_ | refine sw_ln (fun _ => rfl) ⟨rfl, leB rfl⟩ ?_ | refine sw_vg rfl (fun _ => rfl) trivial ?_ | refine sw_sk rfl rfl ?_
    refine sw_v (iad_hso rfl rfl) ⟨by omega, by omega, rfl⟩ ?_
    refine sw_hhn [] (st_dig rfl rfl (AH.set_get _ _ _) (by simp; omega)) ⟨rfl, by simp [digV_length]; omega⟩ ?_
    rw [AH.set_set, win_set _ _ _ ho ha]
    repeat first | refine swV (fun _ => rfl) ?_ | refine sw_l (fun _ => rfl) trivial ?_ | refine sw_ln (fun _ => rfl) ⟨rfl, leB rfl⟩ ?_ | refine sw_vg rfl (fun _ => rfl) trivial ?_ | refine sw_sk rfl rfl ?_
    refine SW.nil ?_
    show AWp _ _ _ _ _ _
    refine awp_sw ?_
    refine sw_v (i64_inc rfl rfl (by omega)) trivial ?_
    repeat first | refine swV (fun _ => rfl) ?_ | refine sw_l (fun _ => rfl) trivial ?_ | refine sw_ln (fun _ => rfl) ⟨rfl, leB rfl⟩ ?_ | refine sw_vg rfl (fun _ => rfl) trivial ?_ | refine sw_sk rfl rfl ?_
    refine SW.nil ?_
    refine ⟨⟨(i + 1, a ++ [u'], _, bo'), by dsimp only; omega, by simp [ha], da.append (Dig.cons hub Dig.nil), t3, hb1, ?_⟩, by dsimp only; omega, le_sub (sub_cons rfl (sub_cons rfl (sub_cons rfl (sub_cons rfl (sub_cons rfl (sub_cons rfl (sub_cons rfl (sub_cons rfl (sub_nil _)))))))))⟩
    dsimp only
    rw [val_snoc, ha, tv, tw, Nat.mul_add q, Nat.pow_succ]
    generalize (q * vi % B64 + c + 0) % B64 = lo at *
    generalize q * vi / B64 + (q * vi % B64 + c + 0) / B64 = c' at *
    have k1 : c + bo + u' + q * vi = wi + B64 * (c' + bo') := by rw [Nat.mul_add]; omega
    have k2 := congrArg (B64 ^ i * ·) k1
    simp only [Nat.mul_add] at k2 e ⊢
    rw [show q * (B64 ^ i * vi) = B64 ^ i * (q * vi) by rw [Nat.mul_left_comm], Nat.mul_assoc, Nat.mul_assoc]
    omega
  · obtain rfl : i = n := by simp at h; omega
    refine awp_exit ?_
    show AWp _ _ _ _ _ _
    have hwi : w.drop i = [w[i]] := by
      rw [← List.getElem_cons_drop (show i < w.length by omega), List.drop_eq_nil_of_le (by omega)]
    have hu := dw w[i] (List.getElem_mem (by omega))
    have tw : val (w.take (i + 1)) = _ := take_getD
    rw [show w.getD i 0 = w[i] by simp [List.getD_eq_getElem?_getD, show i < w.length by omega], List.take_of_length_le (by omega)] at tw
    rw [List.take_of_length_le (by omega)] at e
    generalize w[i] = wi at *
    have wg : (pre ++ (a ++ [wi]) ++ post)[o + i]? = some wi := by
      rw [List.append_assoc, List.getElem?_append_right (by omega), show o + i - pre.length = i by omega, List.append_assoc, List.getElem?_append_right (by omega), ha, Nat.sub_self]; rfl
    obtain ⟨bo', hbo'⟩ : ∃ x, (if wi < c + bo then 1 else 0) = x := ⟨_, rfl⟩
    obtain ⟨u', hu'⟩ : ∃ x, (wi + B64 - c - bo) % B64 = x := ⟨_, rfl⟩
    have hb1 : bo' ≤ 1 := by rw [← hbo']; split <;> decide
    have hub : u' < B64 := by rw [← hu']; exact Nat.mod_lt _ (by decide)
    have t1 : u' + (c + bo) = wi + B64 * bo' := by
      rw [← hbo', ← hu']
      by_cases h : wi < c + bo
      · rw [if_pos h]; simp only [B64] at *; omega
      · rw [if_neg h]; simp only [B64] at *; omega
    rw [hwi]
    refine awp_seq_sw ?_
    repeat first | refine swV (fun _ => rfl) ?_ | refine sw_l (fun _ => rfl) trivial ?_ | refine sw_ln (fun _ => rfl) ⟨rfl, leB rfl⟩ ?_ | refine sw_vg rfl (fun _ => rfl) trivial ?_ | refine sw_sk rfl rfl ?_
    refine SW.nil (awp_seq_sw ?_)
    refine swV (fun _ => rfl) ?_
    refine swV (fun _ => rfl) ?_
    refine swV (fun _ => rfl) ?_
    refine swV (fun _ => rfl) ?_
    refine sw_v (iad_hso rfl rfl) ⟨by omega, by omega, rfl⟩ ?_
    refine sw_hv [] (ld_dig (e := wi) rfl (AH.set_get _ _ _) wg) trivial ?_
    refine swV (fun _ => rfl) ?_
    refine swV (fun _ => rfl) ?_
    refine sw_v (sbbE u' bo' rfl rfl rfl hu hc hbo hu' hbo') ⟨by omega, by omega, by omega, by omega, by simp only [B64] at hu; omega, by simp only [B64] at hc; omega⟩ ?_
    repeat first | refine swV (fun _ => rfl) ?_ | refine sw_l (fun _ => rfl) trivial ?_ | refine sw_ln (fun _ => rfl) ⟨rfl, leB rfl⟩ ?_ | refine sw_vg rfl (fun _ => rfl) trivial ?_ | refine sw_sk rfl rfl ?_
    refine sw_v (iad_hso rfl rfl) ⟨by omega, by omega, rfl⟩ ?_
    refine sw_hhn [] (st_dig rfl rfl (AH.set_get _ _ _) (by simp; omega)) ⟨rfl, by simp [digV_length]; omega⟩ ?_
    rw [AH.set_set, win_set _ _ _ ho ha]
    repeat first | refine swV (fun _ => rfl) ?_ | refine sw_l (fun _ => rfl) trivial ?_ | refine sw_ln (fun _ => rfl) ⟨rfl, leB rfl⟩ ?_ | refine sw_vg rfl (fun _ => rfl) trivial ?_ | refine sw_sk rfl rfl ?_
    refine SW.nil (awp_seq_sw ?_)
    repeat first | refine swV (fun _ => rfl) ?_ | refine sw_l (fun _ => rfl) trivial ?_ | refine sw_ln (fun _ => rfl) ⟨rfl, leB rfl⟩ ?_ | refine sw_vg rfl (fun _ => rfl) trivial ?_ | refine sw_sk rfl rfl ?_
    refine SW.nil (awp_ret ?_)
    refine ⟨.inr rfl, _, rfl, (a ++ [u']) ++ [], bo', ?_, rfl, by simp [ha], ?_, hb1, ?_⟩
    · show V.lit (.bool (decide ((bo' : Int) > (0 : Int)))) = _
      congr 2
      rw [decide_eq_decide]
      omega
    · rw [List.append_nil]; exact da.append (Dig.cons hub Dig.nil)
    · rw [List.append_nil, val_snoc, ha, tw, Nat.pow_succ, Nat.mul_assoc]
      have k2 := congrArg (B64 ^ i * ·) t1
      simp only [Nat.mul_add] at k2 e ⊢
      omega
/-- 'mag.give'. -/
theorem fn_give (pre w post vs : List Nat) (b o n : Nat) (hw : w.length = n + 1) (hv : vs.length = n) (hn0 : 0 < n) (ho : pre.length = o) (dw : Dig w) (dv : Dig vs) (hn : n < 2 ^ 40)
    (H : AH) (hb : H.get b = some (.cells (digV (pre ++ w ++ post)))) :
    ∃ w' c v', w'.length = n + 1 ∧ Dig w' ∧ val w' + B64 ^ (n + 1) * c = val w + val vs ∧
      FN Tryz.prog 154 [.hs b o (n + 1) 1, .vs (digV vs) n] H v' (H.set b (.cells (digV (pre ++ w' ++ post)))) := by
  suffices h : ∃ v' H', FN Tryz.prog 154 [.hs b o (n + 1) 1, .vs (digV vs) n] H v' H' ∧ (∃ w' c, H' = H.set b (.cells (digV (pre ++ w' ++ post))) ∧ w'.length = n + 1 ∧ Dig w' ∧ val w' + B64 ^ (n + 1) * c = val w + val vs) by
    obtain ⟨v', H', h1, w', c, rfl, h2, h3, h4⟩ := h
    exact ⟨w', c, v', h2, h3, h4, h1⟩
  refine fn_of cf154 (by simp) ?_
  show AWp _ _ _ ac154 _ _
  unfold ac154
  refine awp_seq_sw ?_
  repeat first | refine swV (fun _ => rfl) ?_ | refine sw_l (fun _ => rfl) trivial ?_ | refine sw_ln (fun _ => rfl) ⟨rfl, leB rfl⟩ ?_ | refine sw_vg rfl (fun _ => rfl) trivial ?_ | refine sw_sk rfl rfl ?_
  refine SW.nil (awp_seq_seq_sw ?_)
  repeat first | refine swV (fun _ => rfl) ?_ | refine sw_l (fun _ => rfl) trivial ?_ | refine sw_ln (fun _ => rfl) ⟨rfl, leB rfl⟩ ?_ | refine sw_vg rfl (fun _ => rfl) trivial ?_ | refine sw_sk rfl rfl ?_
  refine SW.nil (awp_block ?_)
  refine awp_loop (γ := { p : Nat × List Nat × Nat // p.1 ≤ n ∧ p.2.1.length = p.1 ∧ Dig p.2.1 ∧ p.2.2 ≤ 1 ∧ val p.2.1 + B64 ^ p.1 * p.2.2 = val (w.take p.1) + val (vs.take p.1) })
    (fun p => ⟨[(0, .v (.hs b o (n + 1) 1)), (1, .v (.vs (digV vs) n)), (4, .v (.lit (.int .u64 (p.1.2.2 : Int)))), (7, .v (.vs (digV vs) n)), (8, .v (.lit (.int .i64 (n : Int)))), (9, .v (.lit (.int .i64 (p.1.1 : Int))))], [],
      H.set b (.cells (digV (pre ++ (p.1.2.1 ++ w.drop p.1.1) ++ post)))⟩) (fun p => n - p.1.1)
    ⟨(0, [], 0), Nat.zero_le _, rfl, Dig.nil, by decide, by simp [val]⟩ ?_ ?_
  · dsimp only
    rw [List.nil_append, List.drop_zero, AH.set_self hb]
    exact le_sub (sub_cons rfl (sub_cons rfl (sub_cons rfl (sub_cons rfl (sub_cons rfl (sub_cons rfl (sub_nil _)))))))
  rintro ⟨⟨i, a, c⟩, hi, ha, da, hc, e⟩
  dsimp only at hi ha da hc e ⊢
  refine awp_seq_sw ?_
  repeat first | refine swV (fun _ => rfl) ?_ | refine sw_l (fun _ => rfl) trivial ?_ | refine sw_ln (fun _ => rfl) ⟨rfl, leB rfl⟩ ?_ | refine sw_vg rfl (fun _ => rfl) trivial ?_ | refine sw_sk rfl rfl ?_
  refine SW.nil (awp_seq (awp_cond rfl (fun h => ?_) fun h => ?_))
  · have hlt : i < n := by simpa using h
    refine awp_skip ?_
    have hvi : vs.drop i = vs[i] :: vs.drop (i + 1) := (List.getElem_cons_drop (by omega)).symm
    have hwi : w.drop i = w[i] :: w.drop (i + 1) := (List.getElem_cons_drop (by omega)).symm
    have hp := dv vs[i] (List.getElem_mem (by omega))
    have hu := dw w[i] (List.getElem_mem (by omega))
    have tv : val (vs.take (i + 1)) = _ := take_getD
    have tw : val (w.take (i + 1)) = _ := take_getD
    rw [show vs.getD i 0 = vs[i] by simp [List.getD_eq_getElem?_getD, show i < vs.length by omega]] at tv
    rw [show w.getD i 0 = w[i] by simp [List.getD_eq_getElem?_getD, show i < w.length by omega]] at tw
    generalize hvx : vs[i] = vi at *
    generalize hwx : w[i] = wi at *
    have wg : (pre ++ (a ++ wi :: w.drop (i + 1)) ++ post)[o + i]? = some wi := by
      rw [List.append_assoc, List.getElem?_append_right (by omega), show o + i - pre.length = i by omega, List.append_assoc, List.getElem?_append_right (by omega), ha, Nat.sub_self]; rfl
    rw [hwi]
    refine awp_seq (awp_block ?_)
    refine awp_seq_sw ?_
    refine swV (fun _ => rfl) ?_
    refine sw_v (iad_dig _ _ rfl rfl hvi) ⟨by omega, by omega⟩ ?_
    repeat first | refine swV (fun _ => rfl) ?_ | refine sw_l (fun _ => rfl) trivial ?_ | refine sw_ln (fun _ => rfl) ⟨rfl, leB rfl⟩ ?_ | refine sw_vg rfl (fun _ => rfl) trivial ?_ | refine sw_sk rfl rfl ?_
    refine SW.nil (awp_sw ?_)
    refine swV (fun _ => rfl) ?_
    refine swV (fun _ => rfl) ?_
    refine swV (fun _ => rfl) ?_
    refine swV (fun _ => rfl) ?_
    refine sw_v (iad_hso rfl rfl) ⟨by omega, by omega, rfl⟩ ?_
    refine sw_hv [] (ld_dig (e := wi) rfl (AH.set_get _ _ _) wg) trivial ?_
    refine swV (fun _ => rfl) ?_
    refine swV (fun _ => rfl) ?_
    refine sw_v (adc_nat rfl rfl rfl) ⟨by omega, by omega, by omega, by omega⟩ ?_
    repeat first | refine swV (fun _ => rfl) ?_ | refine sw_l (fun _ => rfl) trivial ?_ | refine sw_ln (fun _ => rfl) ⟨rfl, leB rfl⟩ ?_ | refine sw_vg rfl (fun _ => rfl) trivial ?_ | refine sw_sk rfl rfl ?_
    refine sw_v (iad_hso rfl rfl) ⟨by omega, by omega, rfl⟩ ?_
    refine sw_hhn [] (st_dig rfl rfl (AH.set_get _ _ _) (by simp; omega)) ⟨rfl, by simp [digV_length]; omega⟩ ?_
    rw [AH.set_set, win_set _ _ _ ho ha]
    repeat first | refine swV (fun _ => rfl) ?_ | refine sw_l (fun _ => rfl) trivial ?_ | refine sw_ln (fun _ => rfl) ⟨rfl, leB rfl⟩ ?_ | refine sw_vg rfl (fun _ => rfl) trivial ?_ | refine sw_sk rfl rfl ?_
    refine SW.nil ?_
    show AWp _ _ _ _ _ _
    refine awp_sw ?_
    refine sw_v (i64_inc rfl rfl (by omega)) trivial ?_
    repeat first | refine swV (fun _ => rfl) ?_ | refine sw_l (fun _ => rfl) trivial ?_ | refine sw_ln (fun _ => rfl) ⟨rfl, leB rfl⟩ ?_ | refine sw_vg rfl (fun _ => rfl) trivial ?_ | refine sw_sk rfl rfl ?_
    refine SW.nil ?_
    refine ⟨⟨(i + 1, a ++ [_], _), by dsimp only; omega, by simp [ha], da.append (Dig.cons (Nat.mod_lt _ (by decide)) Dig.nil), by dsimp only; simp only [B64] at *; omega, ?_⟩, by dsimp only; omega, le_sub (sub_cons rfl (sub_cons rfl (sub_cons rfl (sub_cons rfl (sub_cons rfl (sub_cons rfl (sub_nil _)))))))⟩
    dsimp only
    rw [val_snoc, ha, tv, tw, Nat.pow_succ]
    have k1 := Nat.mod_add_div (wi + vi + c) B64
    have k2 := congrArg (B64 ^ i * ·) k1
    simp only [Nat.mul_add] at k2 e ⊢
    rw [Nat.mul_assoc]
    omega
  · obtain rfl : i = n := by simp at h; omega
    refine awp_exit ?_
    show AWp _ _ _ _ _ _
    have hwi : w.drop i = [w[i]] := by
      rw [← List.getElem_cons_drop (show i < w.length by omega), List.drop_eq_nil_of_le (by omega)]
    have hu := dw w[i] (List.getElem_mem (by omega))
    have tw : val (w.take (i + 1)) = _ := take_getD
    rw [show w.getD i 0 = w[i] by simp [List.getD_eq_getElem?_getD, show i < w.length by omega], List.take_of_length_le (by omega)] at tw
    rw [List.take_of_length_le (show vs.length ≤ i by omega)] at e
    generalize w[i] = wi at *
    have wg : (pre ++ (a ++ [wi]) ++ post)[o + i]? = some wi := by
      rw [List.append_assoc, List.getElem?_append_right (by omega), show o + i - pre.length = i by omega, List.append_assoc, List.getElem?_append_right (by omega), ha, Nat.sub_self]; rfl
    rw [hwi]
    refine awp_sw ?_
    refine swV (fun _ => rfl) ?_
    refine swV (fun _ => rfl) ?_
    refine swV (fun _ => rfl) ?_
    refine sw_v (iad_hso rfl rfl) ⟨by omega, by omega, rfl⟩ ?_
    refine sw_hv [] (ld_dig (e := wi) rfl (AH.set_get _ _ _) wg) trivial ?_
    refine swV (fun _ => rfl) ?_
    refine sw_v (u64_addE ((wi + c) % B64) rfl rfl rfl) trivial ?_
    refine sw_v (iad_hso rfl rfl) ⟨by omega, by omega, rfl⟩ ?_
    refine sw_hhn [] (st_dig rfl rfl (AH.set_get _ _ _) (by simp; omega)) ⟨rfl, by simp [digV_length]; omega⟩ ?_
    rw [AH.set_set, win_set _ _ _ ho ha]
    refine SW.nil ?_
    refine ⟨.inl rfl, _, rfl, (a ++ [_]) ++ [], (wi + c) / B64, rfl, by simp [ha], ?_, ?_⟩
    · rw [List.append_nil]; exact da.append (Dig.cons (Nat.mod_lt _ (by decide)) Dig.nil)
    · rw [List.append_nil, val_snoc, ha, tw, Nat.pow_succ, Nat.mul_assoc]
      have k1 := Nat.mod_add_div (wi + c) B64
      have k2 := congrArg (B64 ^ i * ·) k1
      simp only [Nat.mul_add] at k2 e ⊢
      omega
end Iso

/- Long division: one digit of the quotient. Nothing of a program. -/
namespace Iso
open Go
theorem guess_low {D T V U V2 X Y q B : Nat} (hT : T = X + D * U) (hV : V = Y + D * V2) (hX : X < D) (hv : 0 < V) (hTV : T < V * B) (h : q = B - 1 ∨ U < (q + 1) * V2) (hB : 0 < B) : T / V ≤ q := by
  have : T / V < q + 1 := by
    rw [Nat.div_lt_iff_lt_mul hv]
    rcases h with rfl | h
    · rw [show B - 1 + 1 = B by omega, Nat.mul_comm]; exact hTV
    · have h1 := Nat.mul_le_mul_left D (show U + 1 ≤ (q + 1) * V2 by omega)
      rw [Nat.mul_add, Nat.mul_one] at h1
      have h2 : (q + 1) * V = (q + 1) * Y + D * ((q + 1) * V2) := by rw [hV]; grind
      omega
  omega
theorem guess_high {D T V U V2 X Y q B : Nat} (hT : T = X + D * U) (hV : V = Y + D * V2) (hY : Y < D) (hv : 0 < V) (h : q * V2 ≤ U) (hq : q < B) (h2 : B ≤ V2) : q ≤ T / V + 1 := by
  rcases Nat.eq_zero_or_pos q with rfl | h0
  · exact Nat.zero_le _
  obtain ⟨k, rfl⟩ : ∃ k, q = k + 1 := ⟨q - 1, by omega⟩
  refine Nat.succ_le_succ ?_
  rw [Nat.le_div_iff_mul_le hv]
  have h1 := Nat.mul_le_mul_left D h
  have h3 : k * V ≤ D * (k * V2 + k) := by
    have h4 := Nat.mul_le_mul_left k (show Y ≤ D by omega)
    have : k * V = k * Y + D * (k * V2) := by rw [hV]; grind
    rw [Nat.mul_add, Nat.mul_comm D k]
    omega
  have h5 := Nat.mul_le_mul_left D (show k * V2 + k ≤ (k + 1) * V2 by rw [Nat.add_mul]; omega)
  omega
theorem top_le {D T V un u1 u2 v1 v2 X Y B : Nat} (hT : T = X + D * ((un * B + u1) * B + u2)) (hV : V = Y + D * (v1 * B + v2)) (hY : Y < D) (hTV : T < V * B) (hv2 : v2 < B) : un ≤ v1 := by
  have h1 : V ≤ D * (v1 * B + v2 + 1) := by rw [Nat.mul_add, Nat.mul_one]; omega
  have h2 := Nat.mul_le_mul_right B h1
  rw [Nat.mul_assoc] at h2
  have h3 : D * ((un * B + u1) * B + u2) < D * ((v1 * B + v2 + 1) * B) := by omega
  have h4 := Nat.lt_of_mul_lt_mul_left h3
  have h5 : un * B + u1 < v1 * B + v2 + 1 := by
    apply Nat.lt_of_mul_lt_mul_right (a := B)
    omega
  rcases Nat.lt_or_ge v1 un with h | h
  · have := Nat.mul_le_mul_right B (show v1 + 1 ≤ un by omega)
    rw [Nat.add_mul] at this
    omega
  · exact h
theorem val_top3 {w : List Nat} {n : Nat} (hn : 2 ≤ n) (hw : w.length = n + 1) : val w = val (w.take (n - 2)) + B64 ^ (n - 2) * ((w[n] * B64 + w[n - 1]) * B64 + w[n - 2]) := by
  have h1 : w.drop (n - 2) = [w[n - 2], w[n - 1], w[n]] := by
    rw [← List.getElem_cons_drop (show n - 2 < w.length by omega), ← List.getElem_cons_drop (show n - 2 + 1 < w.length by omega), ← List.getElem_cons_drop (show n - 2 + 1 + 1 < w.length by omega), List.drop_eq_nil_of_le (by omega)]
    simp only [show n - 2 + 1 = n - 1 by omega, show n - 1 + 1 = n by omega]
  have h2 := val_append (w.take (n - 2)) (w.drop (n - 2))
  rw [List.take_append_drop, h1, show (w.take (n - 2)).length = n - 2 by simp; omega] at h2
  rw [h2]
  simp only [val]
  congr 2
  grind
theorem val_top2 {v : List Nat} {n : Nat} (hn : 2 ≤ n) (hv : v.length = n) : val v = val (v.take (n - 2)) + B64 ^ (n - 2) * (v[n - 1] * B64 + v[n - 2]) := by
  have h1 : v.drop (n - 2) = [v[n - 2], v[n - 1]] := by
    rw [← List.getElem_cons_drop (show n - 2 < v.length by omega), ← List.getElem_cons_drop (show n - 2 + 1 < v.length by omega), List.drop_eq_nil_of_le (by omega)]
    simp only [show n - 2 + 1 = n - 1 by omega]
  have h2 := val_append (v.take (n - 2)) (v.drop (n - 2))
  rw [List.take_append_drop, h1, show (v.take (n - 2)).length = n - 2 by simp; omega] at h2
  rw [h2]
  simp only [val]
  congr 2
  grind
theorem take_lt {w : List Nat} {k : Nat} (hw : Dig w) (h : k ≤ w.length) : val (w.take k) < B64 ^ k := by
  have := val_lt (hw.take k)
  rwa [List.length_take, Nat.min_eq_left h] at this
/-- Of what is taken: the guess was right, or one too great; then one is given back. -/
theorem taken {M T V q x bo : Nat} (hTM : T < M) (h1 : T / V ≤ q) (h2 : q ≤ T / V + 1) (hv : 0 < V) (hx : x < M) (hbo : bo ≤ 1) (e : x + q * V = T + M * bo) :
    (bo = 0 ∧ q = T / V ∧ x = T % V) ∨ (bo = 1 ∧ q = T / V + 1 ∧ x + V = M + T % V) := by
  have hdm := Nat.div_add_mod T V
  have hm := Nat.mod_lt T hv
  rw [Nat.mul_comm] at hdm
  rcases Nat.lt_or_ge (T / V) q with h | h
  · obtain rfl : q = T / V + 1 := by omega
    right
    rw [Nat.add_mul, Nat.one_mul] at e
    rcases Nat.eq_zero_or_pos bo with rfl | hb
    · rw [Nat.mul_zero] at e; omega
    · obtain rfl : bo = 1 := by omega
      rw [Nat.mul_one] at e
      exact ⟨rfl, rfl, by omega⟩
  · obtain rfl : q = T / V := by omega
    left
    rcases Nat.eq_zero_or_pos bo with rfl | hb
    · rw [Nat.mul_zero] at e
      exact ⟨rfl, rfl, by omega⟩
    · obtain rfl : bo = 1 := by omega
      rw [Nat.mul_one] at e
      omega
theorem given {M r x c : Nat} (hr : r < M) (hx : x < M) (e : x + M * c = M + r) : x = r := by
  rcases Nat.lt_or_ge c 1 with h | h
  · obtain rfl : c = 0 := by omega
    rw [Nat.mul_zero] at e; omega
  · rcases Nat.lt_or_ge c 2 with h2 | h2
    · obtain rfl : c = 1 := by omega
      rw [Nat.mul_one] at e; omega
    · have := Nat.mul_le_mul_left M h2
      omega
/-- Small: the last digit is nought. -/
theorem last_zero {w : List Nat} {n : Nat} (hw : w.length = n + 1) (h : val w < B64 ^ n) : w = w.take n ++ [0] := by
  have h1 : w.drop n = [w[n]] := by
    rw [← List.getElem_cons_drop (show n < w.length by omega), List.drop_eq_nil_of_le (by omega)]
  have h2 := val_append (w.take n) (w.drop n)
  rw [List.take_append_drop, h1, show (w.take n).length = n by simp; omega] at h2
  have h3 : w[n] = 0 := by
    rcases Nat.eq_zero_or_pos w[n] with h3 | h3
    · exact h3
    · have := Nat.mul_le_mul_left (B64 ^ n) h3
      simp only [val] at h2
      rw [Nat.mul_zero, Nat.add_zero] at h2
      omega
  rw [← h3, ← h1, List.take_append_drop]
theorem mag_len {ds : List Nat} {n : Nat} (hd : Dig ds) (ht : trim ds = ds) (h1 : B64 ^ (n - 1) ≤ val ds) (h2 : val ds < B64 ^ n) (hn : 0 < n) : ds.length = n := by
  have hv := val_lt hd
  have hne : ds ≠ [] := by
    rintro rfl
    have := Nat.pow_pos (a := B64) (n := n - 1) (by decide)
    simp only [val] at h1
    omega
  have hp := pow_le_val ht hne
  have hl : 0 < ds.length := List.length_pos_iff.2 hne
  have a1 : n - 1 < ds.length := (Nat.pow_lt_pow_iff_right (a := B64) (by decide)).1 (Nat.lt_of_le_of_lt h1 hv)
  have a2 : ds.length - 1 < n := (Nat.pow_lt_pow_iff_right (a := B64) (by decide)).1 (Nat.lt_of_le_of_lt hp h2)
  omega
end Iso

/- Dividing magnitudes: mag.Div. -/
namespace Iso
open Go Go.Proofs
section
variable {ev : Opd → T} {Lg : Nat → Option (List V)} {H : AH} {G : List Nat} {d : Option Nat} {x y z : Opd} {b n : Nat} {p q : Nat}
theorem i64_mul (hx : ev x = .v (.lit (.int .i64 (p : Int)))) (hy : ev y = .v (.lit (.int .i64 (q : Int)))) (h : p * q < 9223372036854775808) :
    ∀ H, aopE [] d (.bin .mul x y) ev Lg H = some ⟨True, .v (.lit (.int .i64 ((p * q : Nat) : Int))), {}⟩ := fun H => by
  have : IntKind.i64.wrap ((p : Int) * (q : Int)) = ((p * q : Nat) : Int) := by
    rw [← Int.natCast_mul, wrap_i64 (by omega) (by omega)]
  rw [← this]; simp only [aopE, hx, hy]; rfl
theorem splice_front (us : List Nat) (zs : List Nat) : splice (digV zs) 0 (digV us) = digV (us ++ zs.drop us.length) := by
  simp only [splice, List.take_zero, List.nil_append, Nat.zero_add, digV_length]
  simp [digV]
theorem cpy_dig {us zs : List Nat} {w : V} (hx : ev x = .v (.hs b 0 n 1)) (hy : ev y = .v w) (hs : IsSl us w) (hg : H.get b = some (.cells (digV zs))) (hl : us.length ≤ n) :
    aopE G d (.cpy 1 x y) ev Lg H = some ⟨V.ones H (digV us) = true ∧ 1 = 1 ∧ 0 + n * 1 ≤ (digV zs).length, .v (.lit (.int .i64 (us.length : Nat))), { heap := some (H.set b (.cells (digV (us ++ zs.drop us.length)))) }⟩ := by
  rcases hs with rfl | ⟨rfl, _, rfl⟩
  · simp only [aopE, hx, hy, hg, slLen, slCells, digV_length, Nat.mul_one, if_true, Nat.min_eq_left hl]
    rw [List.take_of_length_le (by rw [digV_length]; exact Nat.le_refl _), splice_front]
  · simp only [aopE, hx, hy, hg, slLen, slCells, Nat.zero_min, List.take_nil, List.length_nil]
    rw [show splice (digV zs) 0 [] = digV ([] ++ zs.drop 0) from splice_front [] zs]
    rfl
theorem sls_hs {lo hi : Opd} {l h N : Nat} (hx : ev x = .v (.hs b 0 N 1)) (hl : ev lo = .v (.lit (.int .i64 (l : Int)))) (hh : ev hi = .v (.lit (.int .i64 (h : Int)))) :
    ∀ H, aopE [] d (.sls 1 x (some lo) (some hi)) ev Lg H = some ⟨(0 ≤ (h : Int) ∧ (h : Int) ≤ N) ∧ 0 ≤ (l : Int) ∧ (l : Int) ≤ h, .v (.hs b l (h - l) 1), {}⟩ := fun H => by
  simp only [aopE, hx, slLen, bdE, hl, hh, slV, Int.toNat_natCast, if_true, Nat.mul_one, Nat.zero_add]
theorem sls_toN {lo : Opd} {ds : List Nat} {h : Nat} (hx : ev x = .v (.vs (digV ds) n)) (hn : n = ds.length) (hh : ev lo = .v (.lit (.int .i64 (h : Int)))) :
    ∀ H, aopE [] d (.sls 1 x none (some lo)) ev Lg H = some ⟨(0 ≤ (h : Int) ∧ (h : Int) ≤ ds.length) ∧ True, .v (.vs (digV (ds.take h)) h), {}⟩ := by
  subst hn; exact sls_to hx hh
end
theorem up_norm {b n m : Nat} (hn : 0 < n) (h1 : B64 ^ (n - 1) ≤ b) (h2 : b < B64 ^ n) (hm : IsLen b m) : m ≤ 64 * n ∧ 64 * n - m < 64 ∧ B64 ^ (n - 1) * 2 ^ 63 ≤ b * 2 ^ (64 * n - m) ∧ b * 2 ^ (64 * n - m) < B64 ^ n := by
  have hb : b ≠ 0 := by
    rintro rfl
    have := Nat.pow_pos (a := B64) (n := n - 1) (by decide)
    omega
  have hm0 : m ≠ 0 := fun h => hb (hm.zero.1 h)
  obtain ⟨l1, l2⟩ := hm
  have l2 := l2.resolve_left hm0
  rw [B64_pow] at h1 h2
  have a1 : 64 * (n - 1) < m := (Nat.pow_lt_pow_iff_right (a := 2) (by decide)).1 (Nat.lt_of_le_of_lt h1 l1)
  have a2 : m - 1 < 64 * n := (Nat.pow_lt_pow_iff_right (a := 2) (by decide)).1 (Nat.lt_of_le_of_lt l2 h2)
  refine ⟨by omega, by omega, ?_, ?_⟩
  · have := Nat.mul_le_mul_right (2 ^ (64 * n - m)) l2
    rw [← Nat.pow_add] at this
    rw [B64_pow, ← Nat.pow_add]
    rw [show m - 1 + (64 * n - m) = 64 * (n - 1) + 63 by omega] at this
    exact this
  · have := Nat.mul_lt_mul_of_pos_right l1 (Nat.two_pow_pos (64 * n - m))
    rw [← Nat.pow_add, show m + (64 * n - m) = 64 * n by omega] at this
    rw [B64_pow]; exact this
theorem trim_last_ne {ds : List Nat} {n : Nat} (ht : trim ds = ds) (hn : ds.length = n) (h0 : 0 < n) : ds[n - 1] ≠ 0 := by
  obtain ⟨fs, e, h1, he⟩ := (trim_cases ds).resolve_left (by rw [ht]; rintro rfl; simp at hn; omega)
  rw [ht] at h1
  subst h1
  simp at hn
  simp [← hn, he]
theorem frz_dig (b : Nat) (cs : List V) (ds : List Nat) : Vs.frz b cs (digV ds) = digV ds := by
  induction ds with
  | nil => rfl
  | cons d r ih =>
    show Vs.frz b cs (V.lit (.int .u64 (d : Int)) :: digV r) = V.lit (.int .u64 (d : Int)) :: digV r
    simp only [Vs.frz, V.frz, ih]
theorem AH.push2_set (H : AH) (k1 k2 k' : Blk) : ((H.push k1).push k2).set (H.next + 1) k' = (H.push k1).push k' := AH.push_set (H.push k1) k2 k'
theorem AH.push2_get (H : AH) (k1 k2 : Blk) : ((H.push k1).push k2).get (H.next + 1) = some k2 := AH.push_get (H.push k1) k2
/-- 'mag.Div', where the divisor has two digits at least. -/
theorem fn_divL (a b : Nat) (u v : V) (hu : IsMag a u) (hv : IsMag b v) (hab : b ≤ a) (ha : a < BIG * BIG) (hb : B64 ≤ b) (H : AH) :
    ∃ q r, IsMag (a / b) q ∧ IsMag (a % b) r ∧ FN Tryz.prog 102 [u, v] H (.tup [q, r]) H := by
  suffices h : ∃ v' H', FN Tryz.prog 102 [u, v] H v' H' ∧ ((∃ q r, v' = .tup [q, r] ∧ IsMag (a / b) q ∧ IsMag (a % b) r) ∧ ∀ b, b < H.next → H'.get b = H.get b) by
    obtain ⟨v', H', h1, ⟨q, r, rfl, hq, hr⟩, h3⟩ := h
    obtain ⟨ds, hd, _⟩ := id hq
    obtain ⟨es, he, _⟩ := id hr
    exact ⟨q, r, hq, hr, h1.quiet h3 ⟨hd.under _, he.under _, trivial⟩⟩
  obtain ⟨ds, us, ud, ut, uv⟩ := id hu
  obtain ⟨es, vs, vd, vt, vv⟩ := id hv
  have hbb : b < BIG * BIG := Nat.lt_of_le_of_lt hab ha
  have lu := short ut uv ha
  have lv := short vt vv hbb
  obtain ⟨u', hu', fu⟩ := fn_right ds u us (by omega) H
  obtain ⟨v', hv', fv⟩ := fn_right es v vs (by omega) H
  rw [ut] at hu'
  rw [vt] at hv'
  have mv : IsMag b v' := ⟨es, hv', vd, vt, vv⟩
  have fc := fn_cmp ds es u' v' hu' hv' ud vd (by omega) (by omega) H
  rw [uv, vv] at fc
  obtain ⟨n, hn⟩ : ∃ n, es.length = n := ⟨_, rfl⟩
  obtain ⟨m, hm⟩ : ∃ m, ds.length = m := ⟨_, rfl⟩
  have lm : m < 2 ^ 39 := hm ▸ lu
  have ln : n < 2 ^ 39 := hn ▸ lv
  have hn2 : 2 ≤ n := by
    rcases Nat.lt_or_ge n 2 with h | h
    · exfalso
      have h1 := val_lt vd
      rw [vv, hn] at h1
      have h2 : B64 ^ n ≤ B64 ^ 1 := Nat.pow_le_pow_right (by decide) (by omega)
      rw [Nat.pow_one] at h2
      omega
    · exact h
  have hes : es ≠ [] := by rintro rfl; simp at hn; omega
  have hds : ds ≠ [] := by
    rintro rfl
    simp only [val] at uv
    simp only [B64] at hb; omega
  have hbl : B64 ^ (n - 1) ≤ b := by rw [← vv, ← hn]; exact pow_le_val vt hes
  have hbh : b < B64 ^ n := by rw [← vv, ← hn]; exact val_lt vd
  have hah : a < B64 ^ m := by rw [← uv, ← hm]; exact val_lt ud
  have hnm : n ≤ m := by
    have := (Nat.pow_lt_pow_iff_right (a := B64) (by decide)).1 (Nat.lt_of_le_of_lt (Nat.le_trans hbl hab) hah)
    omega
  obtain ⟨mb, hmb, fl⟩ := fn_magLenX b v' mv hbb H
  obtain ⟨hk1, hk, hV1, hV2⟩ := up_norm (by omega) hbl hbh hmb
  generalize hkk : 64 * n - mb = k at *
  obtain ⟨wV, mV, fV⟩ := fn_up es v' k hv' vd vt (by omega) hk H
  obtain ⟨wA, mA, fA⟩ := fn_up ds u' k hu' ud ut (by omega) hk (H.push (.cells (digV (zeros (m + 1)))))
  rw [vv] at mV
  rw [uv] at mA
  obtain rfl := hu'.vs hds
  obtain rfl := hv'.vs hes
  rw [hm] at *
  rw [hn] at *
  generalize hVV : b * 2 ^ k = V at *
  obtain ⟨ws, ss, sd, st, sv⟩ := id mV
  have hp0 := Nat.pow_pos (a := B64) (n := n - 1) (show 0 < B64 by decide)
  have hV0 : 0 < V := Nat.lt_of_lt_of_le (Nat.mul_pos hp0 (by decide)) hV1
  have hws : ws.length = n := mag_len sd st (by rw [sv]; exact Nat.le_trans (Nat.le_mul_of_pos_right _ (by decide)) hV1) (by rw [sv]; exact hV2) (by omega)
  obtain rfl := ss.vs (by rintro rfl; simp at hws; omega)
  have htop := trim_last_ne st hws (by omega)
  obtain ⟨as_, sa, ad, at_, av⟩ := id mA
  have hal : as_.length ≤ m + 1 := by
    rcases Nat.lt_or_ge (m + 1) as_.length with h | h
    · exfalso
      have h1 := pow_le_val at_ (by rintro rfl; simp at h)
      rw [av] at h1
      have h2 := Nat.mul_lt_mul'' hah (show 2 ^ k < B64 from Nat.pow_lt_pow_right (by decide) hk)
      rw [show B64 ^ m * B64 = B64 ^ (m + 1) from rfl] at h2
      have h3 : B64 ^ (m + 1) ≤ B64 ^ (as_.length - 1) := Nat.pow_le_pow_right (by decide) (by omega)
      omega
    · exact h
  obtain ⟨U, hU⟩ : ∃ U, as_ ++ zeros (m + 1 - as_.length) = U := ⟨_, rfl⟩
  have hUl : U.length = m + 1 := by rw [← hU]; simp [zeros_length]; omega
  have hUd : Dig U := by rw [← hU]; exact ad.append (dig_zeros _)
  have hUv : val U = a * 2 ^ k := by rw [← hU, val_append, val_zeros, Nat.mul_zero, Nat.add_zero, av]
  refine fn_of cf102 (by simp) ?_
  show AWp _ _ _ ac102 _ _
  unfold ac102
  refine awp_seq_sw ?_
  repeat first | refine swV (fun _ => rfl) ?_ | refine sw_l (fun _ => rfl) trivial ?_ | refine sw_ln (fun _ => rfl) ⟨rfl, leB rfl⟩ ?_ | refine sw_vg rfl (fun _ => rfl) trivial ?_ | refine sw_sk rfl rfl ?_
  refine SW.nil (awp_seq_sw ?_)
  repeat first | refine swV (fun _ => rfl) ?_ | refine sw_l (fun _ => rfl) trivial ?_ | refine sw_ln (fun _ => rfl) ⟨rfl, leB rfl⟩ ?_ | refine sw_vg rfl (fun _ => rfl) trivial ?_ | refine sw_sk rfl rfl ?_
  refine sw_call rfl fu ?_
  repeat first | refine swV (fun _ => rfl) ?_ | refine sw_l (fun _ => rfl) trivial ?_ | refine sw_ln (fun _ => rfl) ⟨rfl, leB rfl⟩ ?_ | refine sw_vg rfl (fun _ => rfl) trivial ?_ | refine sw_sk rfl rfl ?_
  refine sw_call rfl fv ?_
  repeat first | refine swV (fun _ => rfl) ?_ | refine sw_l (fun _ => rfl) trivial ?_ | refine sw_ln (fun _ => rfl) ⟨rfl, leB rfl⟩ ?_ | refine sw_vg rfl (fun _ => rfl) trivial ?_ | refine sw_sk rfl rfl ?_
  refine SW.nil (awp_seq (awp_block ?_))
  refine awp_seq_sw ?_
  refine swV (fun _ => rfl) ?_
  refine swV (fun _ => rfl) ?_
  refine swV (fun _ => rfl) ?_
  rw [show ((n : Int) == 0) = false by rw [beq_eq_false_iff_ne]; omega]
  repeat first | refine swV (fun _ => rfl) ?_ | refine sw_l (fun _ => rfl) trivial ?_ | refine sw_ln (fun _ => rfl) ⟨rfl, leB rfl⟩ ?_ | refine sw_vg rfl (fun _ => rfl) trivial ?_ | refine sw_sk rfl rfl ?_
  refine sw_callg rfl rfl fc ?_
  repeat first | refine swV (fun _ => rfl) ?_ | refine sw_l (fun _ => rfl) trivial ?_ | refine sw_ln (fun _ => rfl) ⟨rfl, leB rfl⟩ ?_ | refine sw_vg rfl (fun _ => rfl) trivial ?_ | refine sw_sk rfl rfl ?_
  refine SW.nil ?_
  refine awp_cond rfl (fun h => ?_) fun _ => ?_
  · exfalso
    rcases Nat.lt_or_ge b a with h3 | h3
    · rw [cmpI_gt h3] at h; simp at h
    · rw [show a = b by omega, cmpI_eq] at h; simp at h
  refine awp_seq_sw ?_
  repeat first | refine swV (fun _ => rfl) ?_ | refine sw_l (fun _ => rfl) trivial ?_ | refine sw_ln (fun _ => rfl) ⟨rfl, leB rfl⟩ ?_ | refine sw_vg rfl (fun _ => rfl) trivial ?_ | refine sw_sk rfl rfl ?_
  refine SW.nil ?_
  refine awp_cond rfl (fun h => ?_) fun _ => awp_skip ?_
  · exfalso
    have : (n : Int) = 1 := by simpa using h
    omega
  show AWp _ _ _ _ _ _
  refine awp_seq_sw ?_
  refine swV (fun _ => rfl) ?_
  refine swV (fun _ => rfl) ?_
  refine sw_v (i64_mul (p := 64) rfl rfl (by omega)) trivial ?_
  refine swV (fun _ => rfl) ?_
  refine sw_call rfl fl ?_
  refine sw_v (i64_sub rfl rfl hk1 (by omega)) trivial ?_
  rw [hkk]
  repeat first | refine swV (fun _ => rfl) ?_ | refine sw_l (fun _ => rfl) trivial ?_ | refine sw_ln (fun _ => rfl) ⟨rfl, leB rfl⟩ ?_ | refine sw_vg rfl (fun _ => rfl) trivial ?_ | refine sw_sk rfl rfl ?_
  refine SW.nil (awp_seq_sw ?_)
  repeat first | refine swV (fun _ => rfl) ?_ | refine sw_l (fun _ => rfl) trivial ?_ | refine sw_ln (fun _ => rfl) ⟨rfl, leB rfl⟩ ?_ | refine sw_vg rfl (fun _ => rfl) trivial ?_ | refine sw_sk rfl rfl ?_
  refine sw_call rfl fV ?_
  repeat first | refine swV (fun _ => rfl) ?_ | refine sw_l (fun _ => rfl) trivial ?_ | refine sw_ln (fun _ => rfl) ⟨rfl, leB rfl⟩ ?_ | refine sw_vg rfl (fun _ => rfl) trivial ?_ | refine sw_sk rfl rfl ?_
  refine SW.nil (awp_seq_sw ?_)
  refine swV (fun _ => rfl) ?_
  refine swV (fun _ => rfl) ?_
  refine sw_v (i64_inc rfl rfl (by omega)) trivial ?_
  refine sw_hh [] (mks_dig rfl rfl) ⟨by omega, by omega, by omega, by omega⟩ ?_
  repeat first | refine swV (fun _ => rfl) ?_ | refine sw_l (fun _ => rfl) trivial ?_ | refine sw_ln (fun _ => rfl) ⟨rfl, leB rfl⟩ ?_ | refine sw_vg rfl (fun _ => rfl) trivial ?_ | refine sw_sk rfl rfl ?_
  refine SW.nil (awp_seq_sw ?_)
  repeat first | refine swV (fun _ => rfl) ?_ | refine sw_l (fun _ => rfl) trivial ?_ | refine sw_ln (fun _ => rfl) ⟨rfl, leB rfl⟩ ?_ | refine sw_vg rfl (fun _ => rfl) trivial ?_ | refine sw_sk rfl rfl ?_
  refine sw_call rfl fA ?_
  refine sw_hh [] (cpy_dig rfl rfl sa (AH.push_get _ _) hal) ⟨dig_ones _ _, rfl, by simp [digV_length, zeros_length]⟩ ?_
  rw [AH.push_set, show as_ ++ (zeros (m + 1)).drop as_.length = U by rw [← hU]; simp [zeros]]
  refine SW.nil (awp_seq_sw ?_)
  refine swV (fun _ => rfl) ?_
  refine swV (fun _ => rfl) ?_
  rw [hws]
  repeat first | refine swV (fun _ => rfl) ?_ | refine sw_l (fun _ => rfl) trivial ?_ | refine sw_ln (fun _ => rfl) ⟨rfl, leB rfl⟩ ?_ | refine sw_vg rfl (fun _ => rfl) trivial ?_ | refine sw_sk rfl rfl ?_
  refine SW.nil (awp_seq_sw ?_)
  refine swV (fun _ => rfl) ?_
  refine swV (fun _ => rfl) ?_
  refine swV (fun _ => rfl) ?_
  refine sw_v (i64_sub rfl rfl (by omega) (by omega)) trivial ?_
  refine sw_hh [] (mks_dig rfl rfl) ⟨by omega, by omega, by omega, by omega⟩ ?_
  repeat first | refine swV (fun _ => rfl) ?_ | refine sw_l (fun _ => rfl) trivial ?_ | refine sw_ln (fun _ => rfl) ⟨rfl, leB rfl⟩ ?_ | refine sw_vg rfl (fun _ => rfl) trivial ?_ | refine sw_sk rfl rfl ?_
  refine SW.nil (awp_seq_seq_sw ?_)
  refine swV (fun _ => rfl) ?_
  refine swV (fun _ => rfl) ?_
  refine swV (fun _ => rfl) ?_
  rw [show IntKind.i64.wrap (((m + 1 - n : Nat) : Int) - 1) = ((m + 1 - n : Nat) : Int) - 1 from by rw [wrap_i64] <;> omega]
  repeat first | refine swV (fun _ => rfl) ?_ | refine sw_l (fun _ => rfl) trivial ?_ | refine sw_ln (fun _ => rfl) ⟨rfl, leB rfl⟩ ?_ | refine sw_vg rfl (fun _ => rfl) trivial ?_ | refine sw_sk rfl rfl ?_
  refine SW.nil (awp_block ?_)
  refine awp_loop (γ := { p : Nat × List Nat × List Nat // p.1 ≤ m + 1 - n ∧ p.2.1.length = n ∧ Dig p.2.1 ∧ val p.2.1 < V ∧ p.1 + p.2.2.length = m + 1 - n ∧ Dig p.2.2 ∧ val (U.drop p.1) = val p.2.2 * V + val p.2.1 })
    (fun p => ⟨[(8, .v (.lit (.int .i64 (k : Int)))), (9, .v (.vs (digV ws) n)), (10, .v (.hs H.next 0 (m + 1) 1)), (11, .v (.lit (.int .i64 (n : Int)))), (12, .v (.hs (H.next + 1) 0 (m + 1 - n) 1)), (13, .v (.lit (.int .i64 ((p.1.1 : Int) - 1))))], [],
      (H.push (.cells (digV (U.take p.1.1 ++ p.1.2.1 ++ zeros (m + 1 - n - p.1.1))))).push (.cells (digV (zeros p.1.1 ++ p.1.2.2)))⟩)
    (fun p => p.1.1) ⟨(m + 1 - n, U.drop (m + 1 - n), []), Nat.le_refl _, by simp [hUl]; omega, hUd.drop _, ?_, by simp, Dig.nil, by simp [val]⟩ ?_ ?_
  · dsimp only
    have h1 := val_append (U.take (m + 1 - n)) (U.drop (m + 1 - n))
    rw [List.take_append_drop, hUv, show (U.take (m + 1 - n)).length = m + 1 - n by simp [hUl]] at h1
    have h2 : a * 2 ^ k < B64 ^ m * 2 ^ 64 := Nat.mul_lt_mul'' hah (Nat.pow_lt_pow_right (by decide) hk)
    have h4 : a * 2 ^ k < B64 ^ m * 2 ^ 63 := Nat.lt_of_lt_of_le (Nat.mul_lt_mul_of_pos_right hah (Nat.two_pow_pos k)) (Nat.mul_le_mul_left _ (Nat.pow_le_pow_right (by decide) (by omega)))
    have h3 : B64 ^ m * 2 ^ 63 = B64 ^ (m + 1 - n) * (B64 ^ (n - 1) * 2 ^ 63) := by
      rw [← Nat.mul_assoc, ← Nat.pow_add, show m + 1 - n + (n - 1) = m by omega]
    have h5 : B64 ^ (m + 1 - n) * val (U.drop (m + 1 - n)) < B64 ^ (m + 1 - n) * (B64 ^ (n - 1) * 2 ^ 63) := by omega
    exact Nat.lt_of_lt_of_le (Nat.lt_of_mul_lt_mul_left h5) hV1
  · dsimp only
    rw [List.take_append_drop, Nat.sub_self, show U ++ zeros 0 = U from List.append_nil U, List.append_nil]
    exact le_sub (sub_cons rfl (sub_cons rfl (sub_cons rfl (sub_cons rfl (sub_cons rfl (sub_cons rfl (sub_nil _)))))))
  rintro ⟨⟨i, r, qs⟩, hi, hr, dr, hrV, hq, dq, e⟩
  dsimp only at hi hr dr hrV hq dq e ⊢
  refine awp_seq_seq_sw ?_
  repeat first | refine swV (fun _ => rfl) ?_ | refine sw_l (fun _ => rfl) trivial ?_ | refine sw_ln (fun _ => rfl) ⟨rfl, leB rfl⟩ ?_ | refine sw_vg rfl (fun _ => rfl) trivial ?_ | refine sw_sk rfl rfl ?_
  refine SW.nil ?_
  refine awp_cond rfl (fun h => awp_skip ?_) fun h => awp_exit ?_
  · obtain ⟨j, rfl⟩ : ∃ j, i = j + 1 := ⟨i - 1, by have := of_decide_eq_true h; omega⟩
    have hjU : j < U.length := by omega
    have hUj := hUd U[j] (List.getElem_mem hjU)
    have hts : U.take (j + 1) = U.take j ++ [U[j]] := take_succ hjU
    have hdj : U.drop j = U[j] :: U.drop (j + 1) := (List.getElem_cons_drop hjU).symm
    have hlo : (U.take j).length = j := by simp; omega
    generalize U[j] = x at *
    have hw : (x :: r).length = n + 1 := by simp [hr]
    have dw : Dig (x :: r) := Dig.cons hUj dr
    obtain ⟨T, hT⟩ : ∃ T, val (x :: r) = T := ⟨_, rfl⟩
    have hTe : T = x + B64 * val r := by rw [← hT]; rfl
    have hTV : T < V * B64 := by
      have := Nat.mul_le_mul_left B64 (show val r + 1 ≤ V by omega)
      rw [Nat.mul_add, Nat.mul_comm B64 V] at this
      omega
    have hT3 := val_top3 hn2 hw
    have hV3 := val_top2 hn2 hws
    rw [hT] at hT3
    rw [sv] at hV3
    have hX := take_lt dw (k := n - 2) (by omega)
    have hY := take_lt sd (k := n - 2) (by omega)
    have hj' : ((j + 1 : Nat) : Int) - 1 = (j : Int) := by omega
    have hz1 : zeros (m + 1 - n - (j + 1)) = zeros (m - n - j) := by rw [show m + 1 - n - (j + 1) = m - n - j by omega]
    have hlist : U.take (j + 1) ++ r ++ zeros (m + 1 - n - (j + 1)) = U.take j ++ (x :: r) ++ zeros (m - n - j) := by
      rw [hts, hz1]; simp
    have hg0 : ∀ K : Blk, (((H.push (.cells (digV (U.take j ++ (x :: r) ++ zeros (m - n - j))))).push K).get H.next) = some (.cells (digV (U.take j ++ (x :: r) ++ zeros (m - n - j)))) := fun K => by
      rw [AH.push_lt (by rw [AH.next_push]; omega), AH.push_get]
    have v2b := sd ws[n - 2] (List.getElem_mem (by omega))
    obtain ⟨q, qb, q1, q2, fg⟩ := fn_guess (U.take j) (x :: r) (zeros (m - n - j)) ws H.next j n hn2 hw hws hlo dw sd (by omega) (top_le hT3 hV3 hY hTV v2b) (by omega) _ (hg0 (.cells (digV (zeros j ++ 0 :: qs))))
    have gl := guess_low hT3 hV3 hX hV0 hTV q2 (by decide)
    have gh := guess_high hT3 hV3 hY hV0 q1 qb (by
      have := Nat.mul_le_mul_right B64 (show 1 ≤ ws[n - 1] by omega)
      rw [Nat.one_mul] at this
      omega)
    have hg1 := hg0 (.cells (digV (zeros j ++ q :: qs)))
    obtain ⟨w', bo, hw', dw', hbo, he', ft⟩ := fn_take (U.take j) (x :: r) (zeros (m - n - j)) ws H.next j n q hw hws (by omega) hlo dw sd qb (by omega) _ hg1
    rw [hT, sv] at he'
    have hTM : T < B64 ^ (n + 1) := by rw [← hT, ← hw]; exact val_lt dw
    have hx' : val w' < B64 ^ (n + 1) := by rw [← hw']; exact val_lt dw'
    have tk := taken hTM gl gh hV0 hx' hbo he'
    have hmod := Nat.mod_lt T hV0
    have hdiv : T / V < B64 := by
      rw [Nat.div_lt_iff_lt_mul hV0, Nat.mul_comm]; exact hTV
    have hnew : val (U.drop j) = val (T / V :: qs) * V + T % V := by
      rw [hdj]
      simp only [val]
      rw [e]
      have hdm := Nat.div_add_mod T V
      rw [Nat.mul_comm] at hdm
      rw [Nat.add_mul, Nat.mul_add, Nat.mul_assoc]
      omega
    have hnn : (H.push (.cells (digV (U.take j ++ (x :: r) ++ zeros (m - n - j))))).next = H.next + 1 := rfl
    rw [hj', zeros_snoc, hlist]
    refine awp_seq (awp_block ?_)
    refine awp_seq_sw ?_
    refine swV (fun _ => rfl) ?_
    refine swV (fun _ => rfl) ?_
    refine swV (fun _ => rfl) ?_
    refine swV (fun _ => rfl) ?_
    refine sw_v (i64_add rfl rfl (by omega)) trivial ?_
    refine sw_v (i64_inc rfl rfl (by omega)) trivial ?_
    refine sw_v (sls_hs rfl rfl rfl) ⟨⟨by omega, by omega⟩, by omega, by omega⟩ ?_
    rw [show j + n + 1 - j = n + 1 by omega]
    repeat first | refine swV (fun _ => rfl) ?_ | refine sw_l (fun _ => rfl) trivial ?_ | refine sw_ln (fun _ => rfl) ⟨rfl, leB rfl⟩ ?_ | refine sw_vg rfl (fun _ => rfl) trivial ?_ | refine sw_sk rfl rfl ?_
    refine SW.nil (awp_seq_sw ?_)
    repeat first | refine swV (fun _ => rfl) ?_ | refine sw_l (fun _ => rfl) trivial ?_ | refine sw_ln (fun _ => rfl) ⟨rfl, leB rfl⟩ ?_ | refine sw_vg rfl (fun _ => rfl) trivial ?_ | refine sw_sk rfl rfl ?_
    refine sw_call rfl fg ?_
    refine sw_v (iad_hso rfl rfl) ⟨by omega, by omega, rfl⟩ ?_
    rw [Nat.zero_add]
    refine sw_hhn [] (st_dig rfl rfl (AH.push2_get _ _ _) (by simp [zeros_length])) ⟨rfl, by simp [digV_length, zeros_length]⟩ ?_
    rw [AH.push2_set, set_front]
    refine SW.nil (awp_seq_sw ?_)
    refine swV (fun _ => rfl) ?_
    refine swV (fun _ => rfl) ?_
    refine swV (fun _ => rfl) ?_
    refine swV (fun _ => rfl) ?_
    refine sw_v (iad_hso rfl rfl) ⟨by omega, by omega, rfl⟩ ?_
    rw [Nat.zero_add]
    refine sw_hv [] (ld_dig (e := q) rfl (AH.push2_get _ _ _) (by simp [zeros_length])) trivial ?_
    refine sw_loud rfl ft ?_
    rw [AH.push_set_lt _ _ _ (by rw [AH.next_push]; omega), AH.push_set]
    refine SW.nil ?_
    rcases tk with ⟨rfl, rfl, hxe⟩ | ⟨rfl, rfl, hxe⟩
    · refine awp_cond rfl (fun h => by cases h) fun _ => awp_skip ?_
      have hlz := last_zero hw' (by rw [hxe]; omega)
      have hr' : (w'.take n).length = n := by simp; omega
      have hv' : val (w'.take n) = T % V := by
        have h1 := congrArg val hlz
        rw [val_snoc, Nat.mul_zero, Nat.add_zero, hxe] at h1
        exact h1.symm
      show AWp _ _ _ _ _ _
      refine awp_sw ?_
      refine swV (fun _ => rfl) ?_
      refine swV (fun _ => rfl) ?_
      rw [show IntKind.i64.wrap ((j : Int) - 1) = (j : Int) - 1 from by rw [wrap_i64] <;> omega]
      repeat first | refine swV (fun _ => rfl) ?_ | refine sw_l (fun _ => rfl) trivial ?_ | refine sw_ln (fun _ => rfl) ⟨rfl, leB rfl⟩ ?_ | refine sw_vg rfl (fun _ => rfl) trivial ?_ | refine sw_sk rfl rfl ?_
      refine SW.nil ?_
      refine ⟨⟨(j, w'.take n, T / V :: qs), by dsimp only; omega, hr', dw'.take n, by dsimp only; rw [hv']; exact hmod, by simp at hq ⊢; omega, Dig.cons hdiv dq, by dsimp only; rw [hv']; exact hnew⟩, by dsimp only; omega, ?_⟩
      dsimp only
      rw [show U.take j ++ w' ++ zeros (m - n - j) = U.take j ++ w'.take n ++ zeros (m + 1 - n - j) by
        conv => lhs; rw [hlz]
        rw [show m + 1 - n - j = (m - n - j) + 1 by omega, zeros_succ]; simp]
      exact le_sub (sub_cons rfl (sub_cons rfl (sub_cons rfl (sub_cons rfl (sub_cons rfl (sub_cons rfl (sub_nil _)))))))
    · refine awp_cond rfl (fun _ => ?_) fun h => by cases h
      have hg2 : ∀ K : Blk, (((H.push (.cells (digV (U.take j ++ w' ++ zeros (m - n - j))))).push K).get H.next) = some (.cells (digV (U.take j ++ w' ++ zeros (m - n - j)))) := fun K => by
        rw [AH.push_lt (by rw [AH.next_push]; omega), AH.push_get]
      obtain ⟨w2, c, gv, hw2, dw2, he2, fgv⟩ := fn_give (U.take j) w' (zeros (m - n - j)) ws H.next j n hw' hws (by omega) hlo dw' sd (by omega) _ (hg2 (.cells (digV (zeros j ++ T / V :: qs))))
      rw [sv, hxe] at he2
      have hx2 : val w2 < B64 ^ (n + 1) := by rw [← hw2]; exact val_lt dw2
      have hVM : V < B64 ^ (n + 1) := Nat.lt_trans hV2 (Nat.pow_lt_pow_right (by decide) (by omega))
      have hxe2 := given (Nat.lt_trans hmod hVM) hx2 he2
      have hlz := last_zero hw2 (by rw [hxe2]; omega)
      have hr' : (w2.take n).length = n := by simp; omega
      have hv' : val (w2.take n) = T % V := by
        have h1 := congrArg val hlz
        rw [val_snoc, Nat.mul_zero, Nat.add_zero, hxe2] at h1
        exact h1.symm
      refine awp_seq_sw ?_
      refine swV (fun _ => rfl) ?_
      refine swV (fun _ => rfl) ?_
      refine sw_v (iad_hso rfl rfl) ⟨by omega, by omega, rfl⟩ ?_
      rw [Nat.zero_add]
      refine sw_hv [] (ld_dig (e := T / V + 1) rfl (AH.push2_get _ _ _) (by simp [zeros_length])) trivial ?_
      refine sw_v (u64_sub (q := 1) rfl rfl (Nat.le_add_left 1 _) qb) trivial ?_
      rw [Nat.add_sub_cancel]
      refine sw_v (iad_hso rfl rfl) ⟨by omega, by omega, rfl⟩ ?_
      rw [Nat.zero_add]
      refine sw_hhn [] (st_dig rfl rfl (AH.push2_get _ _ _) (by simp [zeros_length])) ⟨rfl, by simp [digV_length, zeros_length]⟩ ?_
      rw [AH.push2_set, set_front]
      refine SW.nil (awp_sw ?_)
      repeat first | refine swV (fun _ => rfl) ?_ | refine sw_l (fun _ => rfl) trivial ?_ | refine sw_ln (fun _ => rfl) ⟨rfl, leB rfl⟩ ?_ | refine sw_vg rfl (fun _ => rfl) trivial ?_ | refine sw_sk rfl rfl ?_
      refine sw_loud rfl fgv ?_
      rw [AH.push_set_lt _ _ _ (by rw [AH.next_push]; omega), AH.push_set]
      refine SW.nil ?_
      show AWp _ _ _ _ _ _
      refine awp_sw ?_
      refine swV (fun _ => rfl) ?_
      refine swV (fun _ => rfl) ?_
      rw [show IntKind.i64.wrap ((j : Int) - 1) = (j : Int) - 1 from by rw [wrap_i64] <;> omega]
      repeat first | refine swV (fun _ => rfl) ?_ | refine sw_l (fun _ => rfl) trivial ?_ | refine sw_ln (fun _ => rfl) ⟨rfl, leB rfl⟩ ?_ | refine sw_vg rfl (fun _ => rfl) trivial ?_ | refine sw_sk rfl rfl ?_
      refine SW.nil ?_
      refine ⟨⟨(j, w2.take n, T / V :: qs), by dsimp only; omega, hr', dw2.take n, by dsimp only; rw [hv']; exact hmod, by simp at hq ⊢; omega, Dig.cons hdiv dq, by dsimp only; rw [hv']; exact hnew⟩, by dsimp only; omega, ?_⟩
      dsimp only
      rw [show U.take j ++ w2 ++ zeros (m - n - j) = U.take j ++ w2.take n ++ zeros (m + 1 - n - j) by
        conv => lhs; rw [hlz]
        rw [show m + 1 - n - j = (m - n - j) + 1 by omega, zeros_succ]; simp]
      exact le_sub (sub_cons rfl (sub_cons rfl (sub_cons rfl (sub_cons rfl (sub_cons rfl (sub_cons rfl (sub_nil _)))))))
  · obtain rfl : i = 0 := by have := of_decide_eq_false h; omega
    show AWp _ _ _ _ _ _
    have e : val U = val qs * V + val r := e
    have hq : qs.length = m + 1 - n := by simpa using hq
    rw [hUv, ← hVV] at e
    have p2 := Nat.two_pow_pos k
    have e1 : a / b = val qs := by
      rw [← Nat.mul_div_mul_right _ _ p2, e, hVV, Nat.mul_comm, Nat.mul_add_div hV0, Nat.div_eq_of_lt hrV, Nat.add_zero]
    have e2 : a % b = val r / 2 ^ k := by
      have h1 := Nat.mul_mod_mul_right (2 ^ k) a b
      rw [e, hVV, Nat.mul_comm, Nat.mul_add_mod, Nat.mod_eq_of_lt hrV] at h1
      rw [h1, Nat.mul_div_cancel _ p2]
    rw [Nat.sub_zero, List.take_zero, List.nil_append, show zeros 0 ++ qs = qs from rfl]
    rw [e1, e2]
    have hrl : r.length + (m + 1 - n) = m + 1 := by omega
    refine awp_le (le_sub (sub_cons (t := 12) rfl (sub_cons (t := 10) rfl (sub_cons (t := 11) rfl (sub_cons (t := 8) rfl (sub_nil _)))))) ?_
    refine awp_le (le_frzd (AH.push_get _ _) hq.symm) ?_
    refine awp_le (t := ⟨[(10, .v (.hs H.next 0 (m + 1) 1)), (12, .v (.vs (digV qs) (m + 1 - n))), (11, .v (.lit (.int .i64 (n : Int)))), (8, .v (.lit (.int .i64 (k : Int))))], [], ((H.push (.cells (digV (r ++ zeros (m + 1 - n))))).push (.cells (digV qs))).del (H.next + 1)⟩) ?_ ?_
    · refine le_sub (sub_cons ?_ (sub_cons rfl (sub_cons rfl (sub_cons rfl (sub_nil _)))))
      simp [Env.get, Env.frz, Iso.T.frz, Iso.V.frz]
    have hgu : (((H.push (.cells (digV (r ++ zeros (m + 1 - n))))).push (.cells (digV qs))).del (H.next + 1)).get H.next = some (.cells (digV (r ++ zeros (m + 1 - n)))) := by
      rw [AH.get_del, if_neg (by omega), AH.push_lt (by rw [AH.next_push]; omega), AH.push_get]
    refine awp_le (le_frzd hgu (by simp [zeros_length, hr]; omega)) ?_
    refine awp_le (t := ⟨[(10, .v (.vs (digV (r ++ zeros (m + 1 - n))) (m + 1))), (12, .v (.vs (digV qs) (m + 1 - n))), (11, .v (.lit (.int .i64 (n : Int)))), (8, .v (.lit (.int .i64 (k : Int))))], [], (((H.push (.cells (digV (r ++ zeros (m + 1 - n))))).push (.cells (digV qs))).del (H.next + 1)).del H.next⟩) ?_ ?_
    · refine le_sub (sub_cons rfl (sub_cons ?_ (sub_cons rfl (sub_cons rfl (sub_nil _)))))
      simp [Env.get, Env.frz, Iso.T.frz, Iso.V.frz, frz_dig]
    generalize hHH : (((H.push (.cells (digV (r ++ zeros (m + 1 - n))))).push (.cells (digV qs))).del (H.next + 1)).del H.next = HH
    have hsame : ∀ b, b < H.next → HH.get b = H.get b := fun b hb => by
      rw [← hHH, AH.get_del, if_neg (by omega), AH.get_del, if_neg (by omega), AH.push_lt (by rw [AH.next_push]; omega), AH.push_lt hb]
    obtain ⟨wq, hwq, fq⟩ := fn_right qs (.vs (digV qs) (m + 1 - n)) (.inl (by rw [hq])) (by omega) HH
    obtain ⟨wr, hwr, fr⟩ := fn_right r (.vs (digV r) n) (.inl (by rw [hr])) (by omega) HH
    obtain ⟨wd, hwd, fd⟩ := fn_down (trim r) wr k hwr dr.trim (trim_trim _) (Nat.lt_of_le_of_lt (trim_length r) (by omega)) hk HH
    rw [val_trim] at hwd
    refine awp_seq_rw hmix ?_
    refine rw_v' (fun _ => rfl) trivial ?_
    refine rw_call' rfl fq ?_
    refine rw_v' (fun _ => rfl) trivial ?_
    refine rw_v' (fun _ => rfl) trivial ?_
    refine rw_v' (sls_toN (ds := r ++ zeros (m + 1 - n)) rfl (by simp [zeros_length, hr]; omega) rfl) ⟨⟨by omega, by simp [zeros_length, hr]; omega⟩, trivial⟩ ?_
    rw [List.take_left' hr]
    refine rw_call' rfl fr ?_
    refine rw_v' (fun _ => rfl) trivial ?_
    refine rw_call' rfl fd ?_
    repeat first | refine rw_v' (fun _ => rfl) trivial ?_ | refine rw_l' (fun _ => rfl) trivial ?_ | refine rw_ln' (fun _ => rfl) ⟨rfl, leB rfl⟩ ?_ | refine rw_vg' rfl (fun _ => rfl) trivial ?_ | refine rw_sk' rfl rfl ?_
    refine RW.nil ⟨by kernel_rfl, awp_ret ?_⟩
    exact ⟨.inr rfl, _, rfl, ⟨_, _, rfl, ⟨trim qs, hwq, dq.trim, trim_trim _, val_trim _⟩, hwd⟩, hsame⟩
end Iso

/- Dividing magnitudes, all cases: mag.Div. -/
namespace Iso
open Go Go.Proofs
/-- 'mag.Div', where the quotient is nought. -/
theorem fn_div0 (a b : Nat) (u v : V) (hu : IsMag a u) (hv : IsMag b v) (hab : b = 0 ∨ a < b) (ha : a < BIG * BIG) (hb : b < BIG * BIG) (H : AH) :
    ∃ q r, IsMag 0 q ∧ IsMag a r ∧ FN Tryz.prog 102 [u, v] H (.tup [q, r]) H := by
  suffices h : ∃ v' H', FN Tryz.prog 102 [u, v] H v' H' ∧ ((∃ q r, v' = .tup [q, r] ∧ IsMag 0 q ∧ IsMag a r) ∧ ∀ b, b < H.next → H'.get b = H.get b) by
    obtain ⟨v', H', h1, ⟨q, r, rfl, hq, hr⟩, h3⟩ := h
    obtain ⟨ds, hd, _⟩ := id hq
    obtain ⟨es, he, _⟩ := id hr
    exact ⟨q, r, hq, hr, h1.quiet h3 ⟨hd.under _, he.under _, trivial⟩⟩
  obtain ⟨ds, us, ud, ut, uv⟩ := id hu
  obtain ⟨es, vs, vd, vt, vv⟩ := id hv
  have lu := short ut uv ha
  have lv := short vt vv hb
  obtain ⟨u', hu', fu⟩ := fn_right ds u us (by omega) H
  obtain ⟨v', hv', fv⟩ := fn_right es v vs (by omega) H
  rw [ut] at hu'
  rw [vt] at hv'
  have mu : IsMag a u' := ⟨ds, hu', ud, ut, uv⟩
  have fc := fn_cmp ds es u' v' hu' hv' ud vd (by omega) (by omega) H
  rw [uv, vv] at fc
  refine fn_of cf102 (by simp) ?_
  show AWp _ _ _ ac102 _ _
  unfold ac102
  refine awp_seq_sw ?_
  repeat first | refine swV (fun _ => rfl) ?_ | refine sw_l (fun _ => rfl) trivial ?_ | refine sw_ln (fun _ => rfl) ⟨rfl, leB rfl⟩ ?_ | refine sw_vg rfl (fun _ => rfl) trivial ?_ | refine sw_sk rfl rfl ?_
  refine SW.nil (awp_seq_sw ?_)
  repeat first | refine swV (fun _ => rfl) ?_ | refine sw_l (fun _ => rfl) trivial ?_ | refine sw_ln (fun _ => rfl) ⟨rfl, leB rfl⟩ ?_ | refine sw_vg rfl (fun _ => rfl) trivial ?_ | refine sw_sk rfl rfl ?_
  refine sw_call rfl fu ?_
  repeat first | refine swV (fun _ => rfl) ?_ | refine sw_l (fun _ => rfl) trivial ?_ | refine sw_ln (fun _ => rfl) ⟨rfl, leB rfl⟩ ?_ | refine sw_vg rfl (fun _ => rfl) trivial ?_ | refine sw_sk rfl rfl ?_
  refine sw_call rfl fv ?_
  repeat first | refine swV (fun _ => rfl) ?_ | refine sw_l (fun _ => rfl) trivial ?_ | refine sw_ln (fun _ => rfl) ⟨rfl, leB rfl⟩ ?_ | refine sw_vg rfl (fun _ => rfl) trivial ?_ | refine sw_sk rfl rfl ?_
  refine SW.nil (awp_seq (awp_block ?_))
  refine awp_seq_join (γ := Unit) (fun _ => ⟨[(0, .v u'), (19, .v (.lit (.bool true)))], [], H⟩) ?_ fun _ => ?_
  · refine awp_sw ?_
    refine swV (fun _ => rfl) ?_
    refine sw_v (len_sl rfl hv') trivial ?_
    refine swV (fun _ => rfl) ?_
    by_cases hb0 : b = 0
    · obtain rfl : es = [] := (val_eq_zero vt).1 (vv.trans hb0)
      repeat first | refine swV (fun _ => rfl) ?_ | refine sw_l (fun _ => rfl) trivial ?_ | refine sw_ln (fun _ => rfl) ⟨rfl, leB rfl⟩ ?_ | refine sw_vg rfl (fun _ => rfl) trivial ?_ | refine sw_sk rfl rfl ?_
      refine SW.nil ?_
      exact ⟨(), le_sub (sub_cons rfl (sub_cons rfl (sub_nil _)))⟩
    · have hlt : a < b := hab.resolve_left hb0
      have hne : es ≠ [] := fun h => hb0 (by rw [← vv, h]; rfl)
      have hpos : 0 < es.length := List.length_pos_iff.2 hne
      rw [show ((es.length : Int) == 0) = false by rw [beq_eq_false_iff_ne]; omega]
      rw [cmpI_lt hlt] at fc
      repeat first | refine swV (fun _ => rfl) ?_ | refine sw_l (fun _ => rfl) trivial ?_ | refine sw_ln (fun _ => rfl) ⟨rfl, leB rfl⟩ ?_ | refine sw_vg rfl (fun _ => rfl) trivial ?_ | refine sw_sk rfl rfl ?_
      refine sw_callg rfl rfl fc ?_
      repeat first | refine swV (fun _ => rfl) ?_ | refine sw_l (fun _ => rfl) trivial ?_ | refine sw_ln (fun _ => rfl) ⟨rfl, leB rfl⟩ ?_ | refine sw_vg rfl (fun _ => rfl) trivial ?_ | refine sw_sk rfl rfl ?_
      refine SW.nil ?_
      exact ⟨(), le_sub (sub_cons rfl (sub_cons rfl (sub_nil _)))⟩
  refine awp_cond rfl (fun _ => ?_) fun h => by cases h
  have m0 : IsMag 0 (.lit (.slice none 0 0)) := ⟨[], .inr ⟨rfl, none, rfl⟩, Dig.nil, rfl, rfl⟩
  refine awp_seq_sw ?_
  refine swV (fun _ => rfl) ?_
  by_cases hds : ds = []
  · subst hds
    refine sw_app0 rfl rfl hu'.len0 hu'.cells0 ?_
    repeat first | refine swV (fun _ => rfl) ?_ | refine sw_l (fun _ => rfl) trivial ?_ | refine sw_ln (fun _ => rfl) ⟨rfl, leB rfl⟩ ?_ | refine sw_vg rfl (fun _ => rfl) trivial ?_ | refine sw_sk rfl rfl ?_
    refine SW.nil (awp_ret ?_)
    refine ⟨.inr rfl, _, rfl, ⟨_, _, rfl, m0, ?_⟩, fun _ _ => rfl⟩
    have : a = 0 := by rw [← uv]; rfl
    rw [this]; exact m0
  · obtain rfl := hu'.vs hds
    have hpos : 0 < ds.length := List.length_pos_iff.2 hds
    refine sw_hh [] (app_dig (ds := ds) rfl rfl) ⟨dig_ones _ _, by omega, by omega, by omega⟩ ?_
    repeat first | refine swV (fun _ => rfl) ?_ | refine sw_l (fun _ => rfl) trivial ?_ | refine sw_ln (fun _ => rfl) ⟨rfl, leB rfl⟩ ?_ | refine sw_vg rfl (fun _ => rfl) trivial ?_ | refine sw_sk rfl rfl ?_
    refine SW.nil ?_
    refine awp_le (le_sub (sub_cons (t := 5) rfl (sub_cons (t := 4) rfl (sub_nil _)))) ?_
    refine awp_le (le_frzd (AH.push_get _ _) rfl) ?_
    refine awp_ret ?_
    refine ⟨.inr rfl, _, rfl, ⟨_, _, rfl, m0, mu⟩, fun b hb => ?_⟩
    dsimp only
    rw [AH.get_del, if_neg (by omega), AH.push_lt hb]
/-- 'mag.Div', where the divisor is one word. -/
theorem fn_divW (a b : Nat) (u v : V) (hu : IsMag a u) (hv : IsMag b v) (hab : b ≤ a) (ha : a < BIG * BIG) (hb : 0 < b) (hb2 : b < B64) (H : AH) :
    ∃ q r, IsMag (a / b) q ∧ IsMag (a % b) r ∧ FN Tryz.prog 102 [u, v] H (.tup [q, r]) H := by
  suffices h : ∃ v' H', FN Tryz.prog 102 [u, v] H v' H' ∧ ((∃ q r, v' = .tup [q, r] ∧ IsMag (a / b) q ∧ IsMag (a % b) r) ∧ ∀ b, b < H.next → H'.get b = H.get b) by
    obtain ⟨v', H', h1, ⟨q, r, rfl, hq, hr⟩, h3⟩ := h
    obtain ⟨ds, hd, _⟩ := id hq
    obtain ⟨es, he, _⟩ := id hr
    exact ⟨q, r, hq, hr, h1.quiet h3 ⟨hd.under _, he.under _, trivial⟩⟩
  obtain ⟨ds, us, ud, ut, uv⟩ := id hu
  obtain ⟨es, vs, vd, vt, vv⟩ := id hv
  have lu := short ut uv ha
  have lv := short vt vv (Nat.lt_of_le_of_lt hab ha)
  obtain ⟨u', hu', fu⟩ := fn_right ds u us (by omega) H
  obtain ⟨v', hv', fv⟩ := fn_right es v vs (by omega) H
  rw [ut] at hu'
  rw [vt] at hv'
  have mu : IsMag a u' := ⟨ds, hu', ud, ut, uv⟩
  have mv : IsMag b v' := ⟨es, hv', vd, vt, vv⟩
  have fc := fn_cmp ds es u' v' hu' hv' ud vd (by omega) (by omega) H
  rw [uv, vv] at fc
  obtain ⟨_, rfl⟩ := (mag_small mv hb2).resolve_left fun h => by omega
  clear hv'
  obtain ⟨w, hw, fw⟩ := fn_word ds u' b hu' ud (by omega) hb hb2 H
  rw [uv] at hw fw
  obtain ⟨r, hr, fr⟩ := fn_magOf (a % b) (Nat.lt_trans (Nat.mod_lt _ hb) hb2) H
  refine fn_of cf102 (by simp) ?_
  show AWp _ _ _ ac102 _ _
  unfold ac102
  refine awp_seq_sw ?_
  repeat first | refine swV (fun _ => rfl) ?_ | refine sw_l (fun _ => rfl) trivial ?_ | refine sw_ln (fun _ => rfl) ⟨rfl, leB rfl⟩ ?_ | refine sw_vg rfl (fun _ => rfl) trivial ?_ | refine sw_sk rfl rfl ?_
  refine SW.nil (awp_seq_sw ?_)
  repeat first | refine swV (fun _ => rfl) ?_ | refine sw_l (fun _ => rfl) trivial ?_ | refine sw_ln (fun _ => rfl) ⟨rfl, leB rfl⟩ ?_ | refine sw_vg rfl (fun _ => rfl) trivial ?_ | refine sw_sk rfl rfl ?_
  refine sw_call rfl fu ?_
  repeat first | refine swV (fun _ => rfl) ?_ | refine sw_l (fun _ => rfl) trivial ?_ | refine sw_ln (fun _ => rfl) ⟨rfl, leB rfl⟩ ?_ | refine sw_vg rfl (fun _ => rfl) trivial ?_ | refine sw_sk rfl rfl ?_
  refine sw_call rfl fv ?_
  repeat first | refine swV (fun _ => rfl) ?_ | refine sw_l (fun _ => rfl) trivial ?_ | refine sw_ln (fun _ => rfl) ⟨rfl, leB rfl⟩ ?_ | refine sw_vg rfl (fun _ => rfl) trivial ?_ | refine sw_sk rfl rfl ?_
  refine SW.nil (awp_seq (awp_block ?_))
  refine awp_seq_sw ?_
  repeat first | refine swV (fun _ => rfl) ?_ | refine sw_l (fun _ => rfl) trivial ?_ | refine sw_ln (fun _ => rfl) ⟨rfl, leB rfl⟩ ?_ | refine sw_vg rfl (fun _ => rfl) trivial ?_ | refine sw_sk rfl rfl ?_
  refine sw_callg rfl rfl fc ?_
  repeat first | refine swV (fun _ => rfl) ?_ | refine sw_l (fun _ => rfl) trivial ?_ | refine sw_ln (fun _ => rfl) ⟨rfl, leB rfl⟩ ?_ | refine sw_vg rfl (fun _ => rfl) trivial ?_ | refine sw_sk rfl rfl ?_
  refine SW.nil ?_
  refine awp_cond rfl (fun h => ?_) fun _ => ?_
  · exfalso
    rcases Nat.lt_or_ge b a with h3 | h3
    · rw [cmpI_gt h3] at h; simp at h
    · rw [show a = b by omega, cmpI_eq] at h; simp at h
  refine awp_seq_sw ?_
  repeat first | refine swV (fun _ => rfl) ?_ | refine sw_l (fun _ => rfl) trivial ?_ | refine sw_ln (fun _ => rfl) ⟨rfl, leB rfl⟩ ?_ | refine sw_vg rfl (fun _ => rfl) trivial ?_ | refine sw_sk rfl rfl ?_
  refine SW.nil ?_
  refine awp_cond rfl (fun _ => ?_) fun h => by simp at h
  refine awp_seq_sw ?_
  refine swV (fun _ => rfl) ?_
  refine swV (fun _ => rfl) ?_
  refine sw_v (iad_dig (j := 0) b [] rfl rfl rfl) ⟨by decide, by simp⟩ ?_
  repeat first | refine swV (fun _ => rfl) ?_ | refine sw_l (fun _ => rfl) trivial ?_ | refine sw_ln (fun _ => rfl) ⟨rfl, leB rfl⟩ ?_ | refine sw_vg rfl (fun _ => rfl) trivial ?_ | refine sw_sk rfl rfl ?_
  refine sw_call rfl fw ?_
  repeat first | refine swV (fun _ => rfl) ?_ | refine sw_l (fun _ => rfl) trivial ?_ | refine sw_ln (fun _ => rfl) ⟨rfl, leB rfl⟩ ?_ | refine sw_vg rfl (fun _ => rfl) trivial ?_ | refine sw_sk rfl rfl ?_
  refine SW.nil (awp_seq_sw ?_)
  repeat first | refine swV (fun _ => rfl) ?_ | refine sw_l (fun _ => rfl) trivial ?_ | refine sw_ln (fun _ => rfl) ⟨rfl, leB rfl⟩ ?_ | refine sw_vg rfl (fun _ => rfl) trivial ?_ | refine sw_sk rfl rfl ?_
  refine sw_call rfl fr ?_
  repeat first | refine swV (fun _ => rfl) ?_ | refine sw_l (fun _ => rfl) trivial ?_ | refine sw_ln (fun _ => rfl) ⟨rfl, leB rfl⟩ ?_ | refine sw_vg rfl (fun _ => rfl) trivial ?_ | refine sw_sk rfl rfl ?_
  refine SW.nil (awp_ret ?_)
  exact ⟨.inr rfl, _, rfl, ⟨_, _, rfl, hw, hr⟩, fun _ _ => rfl⟩
/-- 'mag.Div'. -/
theorem fn_div (a b : Nat) (u v : V) (hu : IsMag a u) (hv : IsMag b v) (ha : a < BIG * BIG) (hb : b < BIG * BIG) (H : AH) :
    ∃ q r, IsMag (a / b) q ∧ IsMag (a % b) r ∧ FN Tryz.prog 102 [u, v] H (.tup [q, r]) H := by
  by_cases h0 : b = 0 ∨ a < b
  · have := fn_div0 a b u v hu hv h0 ha hb H
    rcases h0 with rfl | h0
    · rw [Nat.div_zero, Nat.mod_zero]; exact this
    · rw [Nat.div_eq_of_lt h0, Nat.mod_eq_of_lt h0]; exact this
  · rcases Nat.lt_or_ge b B64 with h | h
    · exact fn_divW a b u v hu hv (by omega) ha (by omega) h H
    · exact fn_divL a b u v hu hv (by omega) ha h H
theorem mag_cases {n : Nat} {v : V} (h : IsMag n v) : (n = 0 ∧ IsSl [] v) ∨ (0 < n ∧ n < B64 ∧ v = .vs (digV [n]) 1) ∨ (B64 ≤ n ∧ ∃ ds, 2 ≤ ds.length ∧ v = .vs (digV ds) ds.length) := by
  rcases Nat.lt_or_ge n B64 with hn | hn
  · rcases mag_small h hn with h | ⟨h1, h2⟩
    · exact .inl h
    · exact .inr (.inl ⟨h1, hn, h2⟩)
  · obtain ⟨ds, hs, hd, ht, hv⟩ := h
    have hl : 2 ≤ ds.length := by
      rcases Nat.lt_or_ge ds.length 2 with hl | hl
      · exfalso
        have h1 := val_lt hd
        rw [hv] at h1
        have h2 : B64 ^ ds.length ≤ B64 ^ 1 := Nat.pow_le_pow_right (by decide) (by omega)
        rw [Nat.pow_one] at h2
        omega
      · exact hl
    exact .inr (.inr ⟨hn, ds, hl, hs.vs (by rintro rfl; simp at hl)⟩)
/-- 'mag.Gcd'. -/
theorem fn_gcd (a b : Nat) (u v : V) (hu : IsMag a u) (hv : IsMag b v) (ha : a < BIG * BIG) (hb : b < BIG * BIG) (H : AH) :
    ∃ w, IsMag (Nat.gcd a b) w ∧ FN Tryz.prog 100 [u, v] H w H := by
  suffices h : ∃ w H', FN Tryz.prog 100 [u, v] H w H' ∧ (IsMag (Nat.gcd a b) w ∧ ∀ b, b < H.next → H'.get b = H.get b) by
    obtain ⟨w, H', h1, hq, h3⟩ := h
    obtain ⟨ds, hd, _⟩ := id hq
    exact ⟨w, hq, h1.quiet h3 (hd.under _)⟩
  obtain ⟨ds, us, ud, ut, uv⟩ := id hu
  obtain ⟨es, vs, vd, vt, vv⟩ := id hv
  have lu := short ut uv ha
  have lv := short vt vv hb
  obtain ⟨u', hu', fu⟩ := fn_right ds u us (by omega) H
  obtain ⟨v', hv', fv⟩ := fn_right es v vs (by omega) H
  rw [ut] at hu'
  rw [vt] at hv'
  have mu : IsMag a u' := ⟨ds, hu', ud, ut, uv⟩
  have mv : IsMag b v' := ⟨es, hv', vd, vt, vv⟩
  refine fn_of cf100 (by simp) ?_
  show AWp _ _ _ ac100 _ _
  unfold ac100
  refine awp_seq_sw ?_
  repeat first | refine swV (fun _ => rfl) ?_ | refine sw_l (fun _ => rfl) trivial ?_ | refine sw_ln (fun _ => rfl) ⟨rfl, leB rfl⟩ ?_ | refine sw_vg rfl (fun _ => rfl) trivial ?_ | refine sw_sk rfl rfl ?_
  refine SW.nil (awp_seq_sw ?_)
  repeat first | refine swV (fun _ => rfl) ?_ | refine sw_l (fun _ => rfl) trivial ?_ | refine sw_ln (fun _ => rfl) ⟨rfl, leB rfl⟩ ?_ | refine sw_vg rfl (fun _ => rfl) trivial ?_ | refine sw_sk rfl rfl ?_
  refine sw_call rfl fu ?_
  repeat first | refine swV (fun _ => rfl) ?_ | refine sw_l (fun _ => rfl) trivial ?_ | refine sw_ln (fun _ => rfl) ⟨rfl, leB rfl⟩ ?_ | refine sw_vg rfl (fun _ => rfl) trivial ?_ | refine sw_sk rfl rfl ?_
  refine sw_call rfl fv ?_
  repeat first | refine swV (fun _ => rfl) ?_ | refine sw_l (fun _ => rfl) trivial ?_ | refine sw_ln (fun _ => rfl) ⟨rfl, leB rfl⟩ ?_ | refine sw_vg rfl (fun _ => rfl) trivial ?_ | refine sw_sk rfl rfl ?_
  refine SW.nil (awp_seq (awp_block ?_))
  refine awp_seq_sw ?_
  refine swV (fun _ => rfl) ?_
  refine sw_v (len_sl rfl hu') trivial ?_
  repeat first | refine swV (fun _ => rfl) ?_ | refine sw_l (fun _ => rfl) trivial ?_ | refine sw_ln (fun _ => rfl) ⟨rfl, leB rfl⟩ ?_ | refine sw_vg rfl (fun _ => rfl) trivial ?_ | refine sw_sk rfl rfl ?_
  refine SW.nil ?_
  by_cases hds : ds = []
  · subst hds
    refine awp_cond rfl (fun _ => ?_) fun h => by simp at h
    have h0 : a = 0 := by rw [← uv]; rfl
    rw [h0, Nat.gcd_zero_left]
    refine awp_seq_sw ?_
    refine swV (fun _ => rfl) ?_
    by_cases hes : es = []
    · subst hes
      refine sw_app0 rfl rfl hv'.len0 hv'.cells0 ?_
      repeat first | refine swV (fun _ => rfl) ?_ | refine sw_l (fun _ => rfl) trivial ?_ | refine sw_ln (fun _ => rfl) ⟨rfl, leB rfl⟩ ?_ | refine sw_vg rfl (fun _ => rfl) trivial ?_ | refine sw_sk rfl rfl ?_
      refine SW.nil (awp_ret ?_)
      have : b = 0 := by rw [← vv]; rfl
      exact ⟨.inr rfl, _, rfl, by rw [this]; exact ⟨[], .inr ⟨rfl, none, rfl⟩, Dig.nil, rfl, rfl⟩, fun _ _ => rfl⟩
    · obtain rfl := hv'.vs hes
      have hpos : 0 < es.length := List.length_pos_iff.2 hes
      refine sw_hh [] (app_dig (ds := es) rfl rfl) ⟨dig_ones _ _, by omega, by omega, by omega⟩ ?_
      repeat first | refine swV (fun _ => rfl) ?_ | refine sw_l (fun _ => rfl) trivial ?_ | refine sw_ln (fun _ => rfl) ⟨rfl, leB rfl⟩ ?_ | refine sw_vg rfl (fun _ => rfl) trivial ?_ | refine sw_sk rfl rfl ?_
      refine SW.nil ?_
      refine awp_le (le_sub (sub_cons (t := 4) rfl (sub_nil _))) ?_
      refine awp_le (le_frzd (AH.push_get _ _) rfl) ?_
      refine awp_ret ?_
      refine ⟨.inr rfl, _, rfl, mv, fun b hb => ?_⟩
      dsimp only
      rw [AH.get_del, if_neg (by omega), AH.push_lt hb]
  refine awp_cond rfl (fun h => absurd (by simpa using h) hds) fun _ => ?_
  have hpos : 0 < ds.length := List.length_pos_iff.2 hds
  refine awp_seq_sw ?_
  refine swV (fun _ => rfl) ?_
  refine sw_v (len_sl rfl hv') trivial ?_
  repeat first | refine swV (fun _ => rfl) ?_ | refine sw_l (fun _ => rfl) trivial ?_ | refine sw_ln (fun _ => rfl) ⟨rfl, leB rfl⟩ ?_ | refine sw_vg rfl (fun _ => rfl) trivial ?_ | refine sw_sk rfl rfl ?_
  refine SW.nil ?_
  by_cases hes : es = []
  · subst hes
    refine awp_cond rfl (fun _ => ?_) fun h => by simp at h
    have h0 : b = 0 := by rw [← vv]; rfl
    rw [h0, Nat.gcd_zero_right]
    obtain rfl := hu'.vs hds
    refine awp_seq_sw ?_
    refine swV (fun _ => rfl) ?_
    refine sw_hh [] (app_dig (ds := ds) rfl rfl) ⟨dig_ones _ _, by omega, by omega, by omega⟩ ?_
    repeat first | refine swV (fun _ => rfl) ?_ | refine sw_l (fun _ => rfl) trivial ?_ | refine sw_ln (fun _ => rfl) ⟨rfl, leB rfl⟩ ?_ | refine sw_vg rfl (fun _ => rfl) trivial ?_ | refine sw_sk rfl rfl ?_
    refine SW.nil ?_
    refine awp_le (le_sub (sub_cons (t := 4) rfl (sub_nil _))) ?_
    refine awp_le (le_frzd (AH.push_get _ _) rfl) ?_
    refine awp_ret ?_
    refine ⟨.inr rfl, _, rfl, mu, fun b hb => ?_⟩
    dsimp only
    rw [AH.get_del, if_neg (by omega), AH.push_lt hb]
  have hpos2 : 0 < es.length := List.length_pos_iff.2 hes
  have ha0 : 0 < a := Nat.pos_of_ne_zero fun h => hds ((val_eq_zero ut).1 (uv.trans h))
  refine awp_cond rfl (fun h => absurd (by simpa using h) hes) fun _ => awp_skip ?_
  show AWp _ _ _ _ _ _
  refine awp_seq_join (γ := { p : Nat × Nat × V × V // 0 < p.1 ∧ p.1 < BIG * BIG ∧ Nat.gcd p.1 p.2.1 = Nat.gcd a b ∧ IsMag p.1 p.2.2.1 ∧ IsMag p.2.1 p.2.2.2 ∧ (p.2.1 = 0 ∨ p.1 < B64 ∧ p.2.1 < B64) }) (fun p => ⟨[(0, .v p.1.2.2.1), (1, .v p.1.2.2.2)], [], H⟩) ?_ ?_
  · refine awp_block ?_
    refine awp_loop (γ := { p : Nat × Nat × V × V // 0 < p.1 ∧ p.1 < BIG * BIG ∧ p.2.1 < BIG * BIG ∧ Nat.gcd p.1 p.2.1 = Nat.gcd a b ∧ IsMag p.1 p.2.2.1 ∧ IsMag p.2.1 p.2.2.2 }) (fun p => ⟨[(0, .v p.1.2.2.1), (1, .v p.1.2.2.2)], [], H⟩) (fun p => p.1.2.1)
      ⟨(a, b, u', v'), ha0, ha, hb, rfl, mu, mv⟩ (le_sub (sub_cons rfl (sub_cons rfl (sub_nil _)))) ?_
    rintro ⟨⟨x, y, p, q⟩, hx0, hx, hy, hg, mp, mq⟩
    dsimp only at hx0 hx hy hg mp mq ⊢
    refine awp_seq_join (γ := PLift (0 < y)) (fun _ => ⟨[(0, .v p), (1, .v q)], [], H⟩) ?_ fun ⟨hy0⟩ => ?_
    · rcases mag_cases mq with ⟨rfl, hq⟩ | ⟨hy0, hyb, rfl⟩ | ⟨hyb, fs, hl, rfl⟩
      · refine awp_seq_sw ?_
        refine swV (fun _ => rfl) ?_
        refine sw_v (len_sl rfl hq) trivial ?_
        refine swV (fun _ => rfl) ?_
        refine swV (fun _ => rfl) ?_
        refine sw_vg rfl (fun _ => rfl) trivial ?_
        refine sw_vg rfl (len_sl rfl hq) trivial ?_
        refine sw_vg rfl (fun _ => rfl) trivial ?_
        refine sw_vg rfl (fun _ => rfl) trivial ?_
        repeat first | refine swV (fun _ => rfl) ?_ | refine sw_l (fun _ => rfl) trivial ?_ | refine sw_ln (fun _ => rfl) ⟨rfl, leB rfl⟩ ?_ | refine sw_vg rfl (fun _ => rfl) trivial ?_ | refine sw_sk rfl rfl ?_
        refine SW.nil ?_
        refine awp_cond rfl (fun h => by cases h) fun _ => awp_exit ?_
        exact ⟨⟨(x, 0, p, q), hx0, hx, hg, mp, mq, .inl rfl⟩, le_sub (sub_cons rfl (sub_cons rfl (sub_nil _)))⟩
      · rcases mag_cases mp with ⟨rfl, hp⟩ | ⟨hx1, hxb, rfl⟩ | ⟨hxb, fs, hl, rfl⟩
        · omega
        · refine awp_seq_sw ?_
          repeat first | refine swV (fun _ => rfl) ?_ | refine sw_l (fun _ => rfl) trivial ?_ | refine sw_ln (fun _ => rfl) ⟨rfl, leB rfl⟩ ?_ | refine sw_vg rfl (fun _ => rfl) trivial ?_ | refine sw_sk rfl rfl ?_
          refine SW.nil ?_
          refine awp_cond rfl (fun h => by simp at h) fun _ => awp_exit ?_
          exact ⟨⟨(x, y, _, _), hx0, hx, hg, mp, mq, .inr ⟨hxb, hyb⟩⟩, le_sub (sub_cons rfl (sub_cons rfl (sub_nil _)))⟩
        · refine awp_seq_sw ?_
          repeat first | refine swV (fun _ => rfl) ?_ | refine sw_l (fun _ => rfl) trivial ?_ | refine sw_ln (fun _ => rfl) ⟨rfl, leB rfl⟩ ?_ | refine sw_vg rfl (fun _ => rfl) trivial ?_ | refine sw_sk rfl rfl ?_
          refine SW.nil ?_
          refine awp_cond rfl (fun _ => awp_skip ?_) fun h => by simp at h; omega
          exact ⟨⟨hy0⟩, le_sub (sub_cons rfl (sub_cons rfl (sub_nil _)))⟩
      · have hy0 : 0 < y := by simp only [B64] at hyb; omega
        refine awp_seq_sw ?_
        refine swV (fun _ => rfl) ?_
        refine swV (fun _ => rfl) ?_
        refine swV (fun _ => rfl) ?_
        rw [show decide ((fs.length : Int) > 1) = true by simp; omega]
        refine swV (fun _ => rfl) ?_
        repeat first | refine sw_u rfl rfl ?_ | refine sw_uu rfl ?_
        repeat first | refine swV (fun _ => rfl) ?_ | refine sw_l (fun _ => rfl) trivial ?_ | refine sw_ln (fun _ => rfl) ⟨rfl, leB rfl⟩ ?_ | refine sw_vg rfl (fun _ => rfl) trivial ?_ | refine sw_sk rfl rfl ?_
        refine SW.nil ?_
        refine awp_cond rfl (fun _ => awp_skip ?_) fun h => by cases h
        exact ⟨⟨hy0⟩, le_sub (sub_cons rfl (sub_cons rfl (sub_nil _)))⟩
    · obtain ⟨q1, r1, _, hr1, fd⟩ := fn_div x y p q mp mq hx hy H
      refine awp_block (awp_seq_sw ?_)
      repeat first | refine swV (fun _ => rfl) ?_ | refine sw_l (fun _ => rfl) trivial ?_ | refine sw_ln (fun _ => rfl) ⟨rfl, leB rfl⟩ ?_ | refine sw_vg rfl (fun _ => rfl) trivial ?_ | refine sw_sk rfl rfl ?_
      refine sw_call rfl fd ?_
      repeat first | refine swV (fun _ => rfl) ?_ | refine sw_l (fun _ => rfl) trivial ?_ | refine sw_ln (fun _ => rfl) ⟨rfl, leB rfl⟩ ?_ | refine sw_vg rfl (fun _ => rfl) trivial ?_ | refine sw_sk rfl rfl ?_
      refine SW.nil (awp_sw ?_)
      repeat first | refine swV (fun _ => rfl) ?_ | refine sw_l (fun _ => rfl) trivial ?_ | refine sw_ln (fun _ => rfl) ⟨rfl, leB rfl⟩ ?_ | refine sw_vg rfl (fun _ => rfl) trivial ?_ | refine sw_sk rfl rfl ?_
      refine SW.nil ?_
      have hlt := Nat.mod_lt x hy0
      refine ⟨⟨(y, x % y, q, r1), hy0, hy, Nat.lt_trans hlt hy, ?_, mq, hr1⟩, hlt, le_sub (sub_cons rfl (sub_cons rfl (sub_nil _)))⟩
      dsimp only
      rw [← hg, Nat.gcd_comm y, ← Nat.gcd_rec, Nat.gcd_comm]
  rintro ⟨⟨x, y, p, q⟩, hx0, hx, hg, mp, mq, hor⟩
  dsimp only at hx0 hx hg mp mq hor ⊢
  rw [← hg]
  by_cases hy0 : y = 0
  · subst hy0
    rw [Nat.gcd_zero_right]
    obtain ⟨fs, hs, hd, ht, hval⟩ := id mp
    have hfs : fs ≠ [] := by rintro rfl; simp only [val] at hval; omega
    have lf := short ht hval hx
    have hpos3 : 0 < fs.length := List.length_pos_iff.2 hfs
    obtain rfl := hs.vs hfs
    have hq := (mag_small mq (by decide)).resolve_right fun h => by omega
    refine awp_seq_seq_sw ?_
    refine swV (fun _ => rfl) ?_
    refine sw_v (len_sl rfl hq.2) trivial ?_
    repeat first | refine swV (fun _ => rfl) ?_ | refine sw_l (fun _ => rfl) trivial ?_ | refine sw_ln (fun _ => rfl) ⟨rfl, leB rfl⟩ ?_ | refine sw_vg rfl (fun _ => rfl) trivial ?_ | refine sw_sk rfl rfl ?_
    refine SW.nil ?_
    refine awp_cond rfl (fun _ => ?_) fun h => by simp at h
    refine awp_seq_sw ?_
    refine swV (fun _ => rfl) ?_
    refine sw_hh [] (app_dig (ds := fs) rfl rfl) ⟨dig_ones _ _, by omega, by omega, by omega⟩ ?_
    repeat first | refine swV (fun _ => rfl) ?_ | refine sw_l (fun _ => rfl) trivial ?_ | refine sw_ln (fun _ => rfl) ⟨rfl, leB rfl⟩ ?_ | refine sw_vg rfl (fun _ => rfl) trivial ?_ | refine sw_sk rfl rfl ?_
    refine SW.nil ?_
    refine awp_le (le_sub (sub_cons (t := 4) rfl (sub_nil _))) ?_
    refine awp_le (le_frzd (AH.push_get _ _) rfl) ?_
    refine awp_ret ?_
    refine ⟨.inr rfl, _, rfl, mp, fun b hb => ?_⟩
    dsimp only
    rw [AH.get_del, if_neg (by omega), AH.push_lt hb]
  · obtain ⟨hxb, hyb⟩ := hor.resolve_left hy0
    obtain ⟨_, rfl⟩ := (mag_small mp hxb).resolve_left fun h => by omega
    obtain ⟨_, rfl⟩ := (mag_small mq hyb).resolve_left fun h => by omega
    refine awp_seq_seq_sw ?_
    repeat first | refine swV (fun _ => rfl) ?_ | refine sw_l (fun _ => rfl) trivial ?_ | refine sw_ln (fun _ => rfl) ⟨rfl, leB rfl⟩ ?_ | refine sw_vg rfl (fun _ => rfl) trivial ?_ | refine sw_sk rfl rfl ?_
    refine SW.nil ?_
    refine awp_cond rfl (fun h => by simp at h) fun _ => awp_skip ?_
    show AWp _ _ _ _ _ _
    refine awp_seq_rw hmix ?_
    refine rw_v' (fun _ => rfl) trivial ?_
    refine rw_v' (iad_dig (j := 0) x [] rfl rfl rfl) ⟨by decide, by simp⟩ ?_
    refine rw_v' (fun _ => rfl) trivial ?_
    refine rw_v' (fun _ => rfl) trivial ?_
    refine rw_v' (iad_dig (j := 0) y [] rfl rfl rfl) ⟨by decide, by simp⟩ ?_
    repeat first | refine rw_v' (fun _ => rfl) trivial ?_ | refine rw_l' (fun _ => rfl) trivial ?_ | refine rw_ln' (fun _ => rfl) ⟨rfl, leB rfl⟩ ?_ | refine rw_vg' rfl (fun _ => rfl) trivial ?_ | refine rw_sk' rfl rfl ?_
    refine RW.nil ⟨by kernel_rfl, ?_⟩
    refine awp_seq (awp_block ?_)
    refine awp_loop (γ := { p : Nat × Nat // 0 < p.1 ∧ p.1 < B64 ∧ p.2 < B64 ∧ Nat.gcd p.1 p.2 = Nat.gcd x y }) (fun p => ⟨[(7, .v (.lit (.int .u64 (p.1.1 : Int)))), (8, .v (.lit (.int .u64 (p.1.2 : Int))))], [], H⟩) (fun p => p.1.2)
      ⟨(x, y), hx0, hxb, hyb, rfl⟩ (le_sub (sub_cons rfl (sub_cons rfl (sub_nil _)))) ?_
    rintro ⟨⟨s, t⟩, hs0, hs, ht, hst⟩
    dsimp only at hs0 hs ht hst ⊢
    refine awp_seq_seq_sw ?_
    repeat first | refine swV (fun _ => rfl) ?_ | refine sw_l (fun _ => rfl) trivial ?_ | refine sw_ln (fun _ => rfl) ⟨rfl, leB rfl⟩ ?_ | refine sw_vg rfl (fun _ => rfl) trivial ?_ | refine sw_sk rfl rfl ?_
    refine SW.nil ?_
    refine awp_cond rfl (fun h => awp_skip ?_) fun h => awp_exit ?_
    · have ht0 : 0 < t := by simp at h; omega
      refine awp_block ?_
      refine awp_rw hmix ?_
      refine rw_v' (fun _ => rfl) trivial ?_
      refine rw_v' (fun _ => rfl) trivial ?_
      refine rw_v' (fun _ => rfl) trivial ?_
      refine rw_v' (u64_rem rfl rfl) (by omega) ?_
      repeat first | refine rw_v' (fun _ => rfl) trivial ?_ | refine rw_l' (fun _ => rfl) trivial ?_ | refine rw_ln' (fun _ => rfl) ⟨rfl, leB rfl⟩ ?_ | refine rw_vg' rfl (fun _ => rfl) trivial ?_ | refine rw_sk' rfl rfl ?_
      refine RW.nil ⟨by kernel_rfl, ?_⟩
      refine ⟨⟨(t, s % t), ht0, ht, Nat.lt_trans (Nat.mod_lt _ ht0) ht, ?_⟩, Nat.mod_lt _ ht0, le_sub (sub_cons rfl (sub_cons rfl (sub_nil _)))⟩
      dsimp only
      rw [← hst, Nat.gcd_comm t, ← Nat.gcd_rec, Nat.gcd_comm]
    · have ht0 : t = 0 := by simp at h; omega
      subst ht0
      rw [Nat.gcd_zero_right] at hst
      subst hst
      show AWp _ _ _ _ _ _
      obtain ⟨w, hw, fw⟩ := fn_magOf _ hs H
      refine awp_seq_sw ?_
      repeat first | refine swV (fun _ => rfl) ?_ | refine sw_l (fun _ => rfl) trivial ?_ | refine sw_ln (fun _ => rfl) ⟨rfl, leB rfl⟩ ?_ | refine sw_vg rfl (fun _ => rfl) trivial ?_ | refine sw_sk rfl rfl ?_
      refine sw_call rfl fw ?_
      repeat first | refine swV (fun _ => rfl) ?_ | refine sw_l (fun _ => rfl) trivial ?_ | refine sw_ln (fun _ => rfl) ⟨rfl, leB rfl⟩ ?_ | refine sw_vg rfl (fun _ => rfl) trivial ?_ | refine sw_sk rfl rfl ?_
      refine SW.nil (awp_ret ?_)
      exact ⟨.inr rfl, _, rfl, hw, fun _ _ => rfl⟩
end Iso

/- Magnitudes and numbers as they come: with noughts at the end. -/
namespace Iso
open Go Go.Proofs
/-- A magnitude, perhaps with noughts at its end. -/
def RMag (n : Nat) (v : V) : Prop := ∃ ds, IsSl ds v ∧ Dig ds ∧ val ds = n ∧ ds.length < 2 ^ 38
def RNum (z : Int) (v : V) : Prop := ∃ (b : Bool) (m : V) (n : Nat), v = .agg [.lit (.bool b), m] ∧ RMag n m ∧ z = (if b then -(n : Int) else n)
theorem RMag.sl {n : Nat} {v : V} (h : RMag n v) : Imm v := let ⟨_, h1, _⟩ := h; h1.imm
theorem IsMag.raw {n : Nat} {v : V} (h : IsMag n v) (hn : n < BIG * BIG) : RMag n v := by
  obtain ⟨ds, h1, h2, h3, h4⟩ := h
  refine ⟨ds, h1, h2, h4, ?_⟩
  rcases Nat.lt_or_ge ds.length 200 with h | h
  · exact Nat.lt_trans h (by decide)
  · exfalso
    have h5 := pow_le_val h3 (by rintro rfl; simp at h)
    have h6 : B64 ^ 128 ≤ B64 ^ (ds.length - 1) := Nat.pow_le_pow_right (by decide) (by omega)
    have h7 : BIG * BIG = B64 ^ 128 := by decide +kernel
    omega
theorem IsNum.raw {z : Int} {v : V} (h : IsNum z v) (hz : z.natAbs < BIG * BIG) : RNum z v := by
  obtain ⟨m, rfl, hm⟩ := h
  exact ⟨_, m, _, rfl, hm.raw hz, by by_cases h : z < 0 <;> simp [h] <;> omega⟩
theorem fn_rightR {n : Nat} {v : V} (h : RMag n v) (H : AH) : ∃ w, IsMag n w ∧ FN Tryz.prog 106 [v] H w H := by
  obtain ⟨ds, hs, hd, hv, hl⟩ := h
  obtain ⟨w, hw, fw⟩ := fn_right ds v hs (by omega) H
  exact ⟨w, ⟨trim ds, hw, hd.trim, trim_trim _, (val_trim _).trans hv⟩, fw⟩
/-- 'mag.Len', as it comes. -/
theorem fn_magLenR (n : Nat) (v : V) (hv : RMag n v) (hn : n < BIG * BIG) (H : AH) : ∃ m : Nat, (m = 0 ↔ n = 0) ∧ FN Tryz.prog 103 [v] H (.lit (.int .i64 (m : Int))) H := by
  suffices h : ∃ v' H', FN Tryz.prog 103 [v] H v' H' ∧ ((∃ m : Nat, v' = .lit (.int .i64 (m : Int)) ∧ IsLen n m) ∧ H' = H) by
    obtain ⟨v', H', h1, ⟨m, rfl, h2⟩, rfl⟩ := h; exact ⟨m, h2.zero, h1⟩
  obtain ⟨w, hw, fw⟩ := fn_rightR hv H
  obtain ⟨ds, hw, hd, ht, hval⟩ := hw
  have hl := short ht hval hn
  refine fn_of cf103 (by simp) ?_
  show AWp _ _ _ ac103 _ _
  unfold ac103
  refine awp_seq_sw ?_
  repeat first | refine swV (fun _ => rfl) ?_ | refine sw_l (fun _ => rfl) trivial ?_ | refine sw_ln (fun _ => rfl) ⟨rfl, leB rfl⟩ ?_ | refine sw_vg rfl (fun _ => rfl) trivial ?_ | refine sw_sk rfl rfl ?_
  refine SW.nil (awp_seq_sw ?_)
  repeat first | refine swV (fun _ => rfl) ?_ | refine sw_l (fun _ => rfl) trivial ?_ | refine sw_ln (fun _ => rfl) ⟨rfl, leB rfl⟩ ?_ | refine sw_vg rfl (fun _ => rfl) trivial ?_ | refine sw_sk rfl rfl ?_
  refine sw_call rfl fw ?_
  repeat first | refine swV (fun _ => rfl) ?_ | refine sw_l (fun _ => rfl) trivial ?_ | refine sw_ln (fun _ => rfl) ⟨rfl, leB rfl⟩ ?_ | refine sw_vg rfl (fun _ => rfl) trivial ?_ | refine sw_sk rfl rfl ?_
  refine SW.nil (awp_seq_seq_sw ?_)
  refine swV (fun _ => rfl) ?_
  refine sw_v (len_sl rfl hw) trivial ?_
  repeat first | refine swV (fun _ => rfl) ?_ | refine sw_l (fun _ => rfl) trivial ?_ | refine sw_ln (fun _ => rfl) ⟨rfl, leB rfl⟩ ?_ | refine sw_vg rfl (fun _ => rfl) trivial ?_ | refine sw_sk rfl rfl ?_
  refine SW.nil ?_
  refine awp_cond rfl (fun h => ?_) fun h => ?_
  · have h0 : ds = [] := by simpa using h
    refine awp_seq_sw ?_
    repeat first | refine swV (fun _ => rfl) ?_ | refine sw_l (fun _ => rfl) trivial ?_ | refine sw_ln (fun _ => rfl) ⟨rfl, leB rfl⟩ ?_ | refine sw_vg rfl (fun _ => rfl) trivial ?_ | refine sw_sk rfl rfl ?_
    refine SW.nil (awp_ret ?_)
    exact ⟨.inr rfl, _, rfl, ⟨0, rfl, by subst h0; simp [← hval, val, IsLen]⟩, rfl⟩
  · have h0 : ds ≠ [] := by rintro rfl; simp at h
    obtain ⟨fs, e, h1, he⟩ := (trim_cases ds).resolve_left (by rw [ht]; exact h0)
    rw [ht] at h1
    subst h1
    have hde := hd e (by simp)
    obtain ⟨m, hm, hm64, fm⟩ := fn_len64 e hde H
    have hm0 : m ≠ 0 := fun hh => he (hm.zero.1 hh)
    have hlen : (fs ++ [e]).length = fs.length + 1 := by simp
    obtain rfl := hw.vs h0
    have e1 : IntKind.i64.wrap (((fs ++ [e]).length : Int) - 1) = (fs.length : Int) := by rw [wrap_i64] <;> simp <;> omega
    refine awp_skip ?_
    refine awp_seq_sw ?_
    refine swV (fun _ => rfl) ?_
    refine swV (fun _ => rfl) ?_
    refine swV (fun _ => rfl) ?_
    rw [e1]
    refine swV (fun _ => rfl) ?_
    rw [show IntKind.i64.wrap (64 * (fs.length : Int)) = ((64 * fs.length : Nat) : Int) from by rw [wrap_i64] <;> omega]
    refine swV (fun _ => rfl) ?_
    refine swV (fun _ => rfl) ?_
    refine swV (fun _ => rfl) ?_
    refine swV (fun _ => rfl) ?_
    rw [e1]
    refine sw_v (iad_dig e [] rfl rfl (by simp)) ⟨by omega, by omega⟩ ?_
    refine swV (fun _ => rfl) ?_
    refine sw_call rfl fm ?_
    refine sw_v (i64_add rfl rfl (by omega)) trivial ?_
    repeat first | refine swV (fun _ => rfl) ?_ | refine sw_l (fun _ => rfl) trivial ?_ | refine sw_ln (fun _ => rfl) ⟨rfl, leB rfl⟩ ?_ | refine sw_vg rfl (fun _ => rfl) trivial ?_ | refine sw_sk rfl rfl ?_
    refine SW.nil (awp_ret ?_)
    exact ⟨.inr rfl, _, rfl, ⟨64 * fs.length + m, rfl, by
      rw [← hval]; exact hm.snoc hd.left he⟩, rfl⟩
/-- 'num.Sign', as it comes. -/
theorem fn_numSignR (z : Int) (v : V) (hv : RNum z v) (hz : z.natAbs < BIG * BIG) (H : AH) : FN Tryz.prog 66 [v] H (.lit (.int .i64 (sgn z))) H := by
  suffices h : ∃ v' H', FN Tryz.prog 66 [v] H v' H' ∧ (v' = .lit (.int .i64 (sgn z)) ∧ H' = H) by
    obtain ⟨v', H', h1, rfl, rfl⟩ := h; exact h1
  obtain ⟨b, m, n, rfl, hm, hzz⟩ := hv
  have hzn : z.natAbs = n := by rw [hzz]; cases b <;> simp
  obtain ⟨k, hk, fk⟩ := fn_magLenR _ m hm (hzn ▸ hz) H
  refine fn_of cf66 (by simp) ?_
  show AWp _ _ _ ac66 _ _
  unfold ac66
  refine awp_seq_sw ?_
  refine sw_l (box_agg rfl (num_imms hm.sl) rfl) trivial ?_
  repeat first | refine swV (fun _ => rfl) ?_ | refine sw_l (fun _ => rfl) trivial ?_ | refine sw_ln (fun _ => rfl) ⟨rfl, leB rfl⟩ ?_ | refine sw_vg rfl (fun _ => rfl) trivial ?_ | refine sw_sk rfl rfl ?_
  refine SW.nil (awp_seq (awp_block ?_))
  refine awp_seq_sw ?_
  repeat first | refine swV (fun _ => rfl) ?_ | refine sw_l (fun _ => rfl) trivial ?_ | refine sw_ln (fun _ => rfl) ⟨rfl, leB rfl⟩ ?_ | refine sw_vg rfl (fun _ => rfl) trivial ?_ | refine sw_sk rfl rfl ?_
  refine sw_call rfl fk ?_
  repeat first | refine swV (fun _ => rfl) ?_ | refine sw_l (fun _ => rfl) trivial ?_ | refine sw_ln (fun _ => rfl) ⟨rfl, leB rfl⟩ ?_ | refine sw_vg rfl (fun _ => rfl) trivial ?_ | refine sw_sk rfl rfl ?_
  refine SW.nil ?_
  refine awp_cond rfl (fun h => ?_) fun h => ?_
  · have h0 : z = 0 := by have : k = 0 := by simp at h; omega
                          have := hk.1 this; omega
    refine awp_seq_sw ?_
    repeat first | refine swV (fun _ => rfl) ?_ | refine sw_l (fun _ => rfl) trivial ?_ | refine sw_ln (fun _ => rfl) ⟨rfl, leB rfl⟩ ?_ | refine sw_vg rfl (fun _ => rfl) trivial ?_ | refine sw_sk rfl rfl ?_
    refine SW.nil (awp_ret ?_)
    exact ⟨.inr rfl, _, rfl, by subst h0; rfl, rfl⟩
  · have h0 : z ≠ 0 := fun hh => by have : k = 0 := hk.2 (by omega)
                                    subst this; simp at h
    refine awp_seq_sw ?_
    repeat first | refine swV (fun _ => rfl) ?_ | refine sw_l (fun _ => rfl) trivial ?_ | refine sw_ln (fun _ => rfl) ⟨rfl, leB rfl⟩ ?_ | refine sw_vg rfl (fun _ => rfl) trivial ?_ | refine sw_sk rfl rfl ?_
    refine SW.nil ?_
    refine awp_cond rfl (fun h => ?_) fun h => ?_
    · subst h
      have hz : z < 0 := by simp at hzz; omega
      refine awp_seq_sw ?_
      repeat first | refine swV (fun _ => rfl) ?_ | refine sw_l (fun _ => rfl) trivial ?_ | refine sw_ln (fun _ => rfl) ⟨rfl, leB rfl⟩ ?_ | refine sw_vg rfl (fun _ => rfl) trivial ?_ | refine sw_sk rfl rfl ?_
      refine SW.nil (awp_ret ?_)
      exact ⟨.inr rfl, _, rfl, by simp only [sgn, hz, if_true]; rfl, rfl⟩
    · subst h
      have hz : ¬ z < 0 := by simp at hzz; omega
      refine awp_skip ?_
      show AWp _ _ _ _ _ _
      refine awp_seq_sw ?_
      repeat first | refine swV (fun _ => rfl) ?_ | refine sw_l (fun _ => rfl) trivial ?_ | refine sw_ln (fun _ => rfl) ⟨rfl, leB rfl⟩ ?_ | refine sw_vg rfl (fun _ => rfl) trivial ?_ | refine sw_sk rfl rfl ?_
      refine SW.nil (awp_ret ?_)
      exact ⟨.inr rfl, _, rfl, by simp only [sgn, hz, if_false, h0]; rfl, rfl⟩
/-- 'num.Mul', as they come. -/
theorem fn_numMulR (x y : Int) (u v : V) (hu : RNum x u) (hv : RNum y v) (bx : x.natAbs < BIG) (by_ : y.natAbs < BIG) (H : AH) : ∃ w, IsNum (x * y) w ∧ FN Tryz.prog 56 [u, v] H w H := by
  refine fn_ex ?_
  obtain ⟨b1, m, n1, rfl, hm, hx⟩ := hu
  obtain ⟨b2, k, n2, rfl, hk, hy⟩ := hv
  have ex : x.natAbs = n1 := by rw [hx]; cases b1 <;> simp
  have ey : y.natAbs = n2 := by rw [hy]; cases b2 <;> simp
  obtain ⟨ds, ms, md, mv, ml⟩ := id hm
  obtain ⟨es, ks, kd, kv, kl⟩ := id hk
  obtain ⟨p, hp, fp⟩ := fn_mul ds es m k ms ks md kd (by omega) (by omega) H
  rw [mv, kv] at hp
  obtain ⟨w, hw, fw⟩ := fn_numMake (b1 != b2) (n1 * n2) p hp (Nat.mul_lt_mul'' (ex ▸ bx) (ey ▸ by_)) H
  have hw := hw.of_make (z := x * y) (by rw [hx, hy]; cases b1 <;> cases b2 <;> simp [Int.neg_mul, Int.mul_neg])
  obtain ⟨m', rfl, hm'⟩ := hw
  refine fn_of cf56 (by simp) ?_
  show AWp _ _ _ ac56 _ _
  unfold ac56
  refine awp_seq_sw ?_
  refine sw_l (box_agg rfl (num_imms hm.sl) rfl) trivial ?_
  refine sw_l (box_agg rfl (num_imms hk.sl) rfl) trivial ?_
  repeat first | refine swV (fun _ => rfl) ?_ | refine sw_l (fun _ => rfl) trivial ?_ | refine sw_ln (fun _ => rfl) ⟨rfl, leB rfl⟩ ?_ | refine sw_vg rfl (fun _ => rfl) trivial ?_ | refine sw_sk rfl rfl ?_
  refine SW.nil (awp_seq_rw hmix ?_)
  repeat first | refine rw_v' (fun _ => rfl) trivial ?_ | refine rw_l' (fun _ => rfl) trivial ?_ | refine rw_ln' (fun _ => rfl) ⟨rfl, leB rfl⟩ ?_ | refine rw_vg' rfl (fun _ => rfl) trivial ?_ | refine rw_sk' rfl rfl ?_
  refine rw_call' rfl fp ?_
  refine rw_call' rfl fw ?_
  refine rw_ln' (st_agg [_, _] rfl rfl (num_imms hm'.sl) rfl rfl) ⟨rfl, leB rfl⟩ ?_
  refine RW.nil ⟨by kernel_rfl, awp_ret ?_⟩
  exact ⟨.inr rfl, _, rfl, ⟨m', rfl, hm'⟩, rfl⟩
/-- A fraction as it comes: its numerator; its denominator, one where there is none. -/
def RFrac (n : Int) (d : Nat) (v : V) : Prop := ∃ (b : Bool) (m k : V) (nn e : Nat), v = .agg [.lit (.bool b), m, k] ∧ RMag nn m ∧ n = (if b then -(nn : Int) else nn) ∧ RMag e k ∧ d = (if e = 0 then 1 else e)
theorem RFrac.pos {n : Int} {d : Nat} {v : V} (h : RFrac n d v) : 0 < d := by
  obtain ⟨_, _, _, _, e, _, _, _, _, rfl⟩ := h
  split <;> omega
theorem mag_one_raw : RMag 1 (.vs (digV [1]) 1) := ⟨[1], .inl rfl, Dig.cons (by decide) Dig.nil, rfl, by decide⟩
/-- 'frac.den', as it comes. -/
theorem fn_denR (n : Int) (d : Nat) (v : V) (hv : RFrac n d v) (hd : d < BIG * BIG) (H : AH) : ∃ w, RMag d w ∧ FN Tryz.prog 62 [v] H w H := by
  refine fn_ex ?_
  obtain ⟨b, m, k, nn, e, rfl, hm, _, hk, he⟩ := hv
  have hB : 0 < BIG * BIG := by decide +kernel
  obtain ⟨j, hj, fj⟩ := fn_magLenR e k hk (by split at he <;> omega) H
  refine fn_of cf62 (by simp) ?_
  show AWp _ _ _ ac62 _ _
  unfold ac62
  refine awp_seq_sw ?_
  refine sw_l (box_agg rfl (frac_imms hm.sl hk.sl) rfl) trivial ?_
  repeat first | refine swV (fun _ => rfl) ?_ | refine sw_l (fun _ => rfl) trivial ?_ | refine sw_ln (fun _ => rfl) ⟨rfl, leB rfl⟩ ?_ | refine sw_vg rfl (fun _ => rfl) trivial ?_ | refine sw_sk rfl rfl ?_
  refine SW.nil (awp_seq_seq_sw ?_)
  repeat first | refine swV (fun _ => rfl) ?_ | refine sw_l (fun _ => rfl) trivial ?_ | refine sw_ln (fun _ => rfl) ⟨rfl, leB rfl⟩ ?_ | refine sw_vg rfl (fun _ => rfl) trivial ?_ | refine sw_sk rfl rfl ?_
  refine sw_call rfl fj ?_
  repeat first | refine swV (fun _ => rfl) ?_ | refine sw_l (fun _ => rfl) trivial ?_ | refine sw_ln (fun _ => rfl) ⟨rfl, leB rfl⟩ ?_ | refine sw_vg rfl (fun _ => rfl) trivial ?_ | refine sw_sk rfl rfl ?_
  refine SW.nil ?_
  refine awp_cond rfl (fun h => ?_) fun h => ?_
  · have hj0 : j = 0 := by simp at h; omega
    have he0 := hj.1 hj0
    have hd1 : d = 1 := by rw [he, if_pos he0]
    refine awp_seq_sw ?_
    refine sw_call rfl (fn_one H) ?_
    repeat first | refine swV (fun _ => rfl) ?_ | refine sw_l (fun _ => rfl) trivial ?_ | refine sw_ln (fun _ => rfl) ⟨rfl, leB rfl⟩ ?_ | refine sw_vg rfl (fun _ => rfl) trivial ?_ | refine sw_sk rfl rfl ?_
    refine SW.nil (awp_ret ?_)
    exact ⟨.inr rfl, _, rfl, hd1 ▸ mag_one_raw, rfl⟩
  · have hj0 : j ≠ 0 := by rintro rfl; simp at h
    have he0 : e ≠ 0 := fun hh => hj0 (hj.2 hh)
    have hed : e = d := by rw [he, if_neg he0]
    refine awp_skip ?_
    refine awp_seq_sw ?_
    repeat first | refine swV (fun _ => rfl) ?_ | refine sw_l (fun _ => rfl) trivial ?_ | refine sw_ln (fun _ => rfl) ⟨rfl, leB rfl⟩ ?_ | refine sw_vg rfl (fun _ => rfl) trivial ?_ | refine sw_sk rfl rfl ?_
    refine SW.nil (awp_ret ?_)
    exact ⟨.inr rfl, _, rfl, hed ▸ hk, rfl⟩
/-- 'frac.below', as it comes. -/
theorem fn_belowR (n : Int) (d : Nat) (v : V) (hv : RFrac n d v) (hd : d < BIG * BIG) (H : AH) : ∃ w, RNum d w ∧ FN Tryz.prog 65 [v] H w H := by
  refine fn_ex ?_
  obtain ⟨w, hw, fw⟩ := fn_denR n d v hv hd H
  obtain ⟨b, m, k, nn, e, rfl, hm, _, hk, _⟩ := hv
  refine fn_of cf65 (by simp) ?_
  show AWp _ _ _ ac65 _ _
  unfold ac65
  refine awp_seq_sw ?_
  refine sw_l (box_agg rfl (frac_imms hm.sl hk.sl) rfl) trivial ?_
  repeat first | refine swV (fun _ => rfl) ?_ | refine sw_l (fun _ => rfl) trivial ?_ | refine sw_ln (fun _ => rfl) ⟨rfl, leB rfl⟩ ?_ | refine sw_vg rfl (fun _ => rfl) trivial ?_ | refine sw_sk rfl rfl ?_
  refine SW.nil (awp_seq_sw ?_)
  refine sw_v (ld_agg [_, _, _] rfl rfl rfl (leB rfl)) trivial ?_
  refine sw_call rfl fw ?_
  refine sw_v (bld_of [.lit (.bool false), _] (fill_cons (l := [_]) rfl hw.sl.cell ⟨rfl, leB rfl⟩ rfl fill_nil)) trivial ?_
  refine sw_ln (st_agg [_, _] rfl rfl (num_imms hw.sl) rfl rfl) ⟨rfl, leB rfl⟩ ?_
  refine SW.nil (awp_ret ?_)
  exact ⟨.inr rfl, _, rfl, ⟨false, w, d, rfl, hw, rfl⟩, rfl⟩
end Iso

/- Fractions in lowest terms, of any size: frac.low and what rests on it. -/
namespace Iso
open Go Go.Proofs
/-- The fraction q, in lowest terms. -/
def IsQ (q : Rat) (v : V) : Prop := ∃ m k, v = .agg [.lit (.bool (decide (q.num < 0))), m, k] ∧ IsMag q.num.natAbs m ∧ IsMag q.den k
/-- Its size. -/
def Bd (q : Rat) (k : Nat) : Prop := q.num.natAbs < 2 ^ k ∧ q.den < 2 ^ k
theorem IsQ.three {q : Rat} {w : V} (h : IsQ q w) : ∃ a b c, w = .agg [a, b, c] ∧ Imms [a, b, c] := by
  obtain ⟨m, k, rfl, hm, hk⟩ := h
  exact ⟨_, _, _, rfl, frac_imms hm.sl hk.sl⟩
theorem IsQ.raw {q : Rat} {v : V} (h : IsQ q v) (b1 : q.num.natAbs < BIG * BIG) (b2 : q.den < BIG * BIG) : RFrac q.num q.den v := by
  obtain ⟨m, k, rfl, hm, hk⟩ := h
  refine ⟨_, m, k, _, _, rfl, hm.raw b1, ?_, hk.raw b2, ?_⟩
  · by_cases h : q.num < 0 <;> simp [h] <;> omega
  · rw [if_neg q.den_nz]
theorem RFrac.imms {n : Int} {d : Nat} {v : V} (h : RFrac n d v) : ∃ b m k nn, v = .agg [.lit (.bool b), m, k] ∧ RMag nn m ∧ n = (if b then -(nn : Int) else nn) ∧ Imm m ∧ Imm k ∧ RNum n (.agg [.lit (.bool b), m]) := by
  obtain ⟨b, m, k, nn, e, rfl, hm, hn, hk, he⟩ := h
  exact ⟨b, m, k, nn, rfl, hm, hn, hm.sl, hk.sl, b, m, nn, rfl, hm, hn⟩
theorem mk_num {n : Int} {d : Nat} (hd : 0 < d) : (mkRat n d).num = n / (Nat.gcd n.natAbs d : Int) := by
  rw [Rat.num_mkRat, if_neg (by omega), Nat.gcd_comm]
theorem mk_den {n : Int} {d : Nat} (hd : 0 < d) : (mkRat n d).den = d / Nat.gcd n.natAbs d := by
  rw [Rat.den_mkRat, if_neg (by omega), Nat.gcd_comm]
theorem ediv_abs {n : Int} {g : Nat} (hg : 0 < g) (h : g ∣ n.natAbs) : n / (g : Int) = (if decide (n < 0) = true then -((n.natAbs / g : Nat) : Int) else ((n.natAbs / g : Nat) : Int)) := by
  obtain ⟨c, hc⟩ := h
  have hg' : (g : Int) ≠ 0 := by omega
  rw [hc, Nat.mul_div_cancel_left _ hg]
  by_cases hn : n < 0
  · have : n = (g : Int) * (-(c : Int)) := by
      rw [Int.mul_neg, ← Int.natCast_mul, ← hc]; omega
    rw [if_pos (by simpa using hn), this, Int.mul_ediv_cancel_left _ hg']
  · have : n = (g : Int) * (c : Int) := by
      rw [← Int.natCast_mul, ← hc]; omega
    rw [if_neg (by simpa using hn), this, Int.mul_ediv_cancel_left _ hg']
/-- 'frac.low'. -/
theorem fn_lowQ (n : Int) (d : Nat) (u k : V) (hu : IsNum n u) (hk : IsMag d k) (hn : n.natAbs < BIG * BIG) (h0 : 0 < d) (hd : d < BIG * BIG) (H : AH) : ∃ w, IsQ (mkRat n d) w ∧ FN Tryz.prog 60 [u, k] H w H := by
  refine fn_ex ?_
  obtain ⟨m, rfl, hm⟩ := hu
  have hB2 : 1 < BIG * BIG := by decide +kernel
  refine fn_of cf60 (by simp) ?_
  show AWp _ _ _ ac60 _ _
  unfold ac60
  refine awp_seq_sw ?_
  refine sw_l (box_agg rfl (num_imms hm.sl) rfl) trivial ?_
  repeat first | refine swV (fun _ => rfl) ?_ | refine sw_l (fun _ => rfl) trivial ?_ | refine sw_ln (fun _ => rfl) ⟨rfl, leB rfl⟩ ?_ | refine sw_vg rfl (fun _ => rfl) trivial ?_ | refine sw_sk rfl rfl ?_
  refine SW.nil (awp_seq_sw ?_)
  refine sw_call rfl (fn_one H) ?_
  repeat first | refine swV (fun _ => rfl) ?_ | refine sw_l (fun _ => rfl) trivial ?_ | refine sw_ln (fun _ => rfl) ⟨rfl, leB rfl⟩ ?_ | refine sw_vg rfl (fun _ => rfl) trivial ?_ | refine sw_sk rfl rfl ?_
  refine SW.nil (awp_seq_seq_sw ?_)
  repeat first | refine swV (fun _ => rfl) ?_ | refine sw_l (fun _ => rfl) trivial ?_ | refine sw_ln (fun _ => rfl) ⟨rfl, leB rfl⟩ ?_ | refine sw_vg rfl (fun _ => rfl) trivial ?_ | refine sw_sk rfl rfl ?_
  refine sw_call rfl (fn_isOne d k hk hd H) ?_
  repeat first | refine swV (fun _ => rfl) ?_ | refine sw_l (fun _ => rfl) trivial ?_ | refine sw_ln (fun _ => rfl) ⟨rfl, leB rfl⟩ ?_ | refine sw_vg rfl (fun _ => rfl) trivial ?_ | refine sw_sk rfl rfl ?_
  refine SW.nil ?_
  refine awp_join (γ := { w : V // IsMag (Nat.gcd n.natAbs d) w })
    (fun p => ⟨[(1, .v k), (2, .lp 2 0), (4, .lp 4 0), (5, .v p.1)], [(4, [.lit (.bool false), .lit (.slice none 0 0), .lit (.slice none 0 0)]), (2, [.lit (.bool (decide (n < 0))), m])], H⟩) ?_ ?_
  · refine awp_cond rfl (fun _ => ?_) fun h => ?_
    · obtain ⟨w, hw, fw⟩ := fn_gcd n.natAbs d m k hm hk hn hd H
      refine awp_sw ?_
      repeat first | refine swV (fun _ => rfl) ?_ | refine sw_l (fun _ => rfl) trivial ?_ | refine sw_ln (fun _ => rfl) ⟨rfl, leB rfl⟩ ?_ | refine sw_vg rfl (fun _ => rfl) trivial ?_ | refine sw_sk rfl rfl ?_
      refine sw_call rfl fw ?_
      repeat first | refine swV (fun _ => rfl) ?_ | refine sw_l (fun _ => rfl) trivial ?_ | refine sw_ln (fun _ => rfl) ⟨rfl, leB rfl⟩ ?_ | refine sw_vg rfl (fun _ => rfl) trivial ?_ | refine sw_sk rfl rfl ?_
      refine SW.nil ⟨⟨w, hw⟩, ?_⟩
      exact le_sub (sub_cons rfl (sub_cons rfl (sub_cons rfl (sub_cons rfl (sub_nil _)))))
    · have h1 : d = 1 := by simpa using h
      refine awp_skip ⟨⟨_, by rw [h1, Nat.gcd_one_right]; exact mag_one⟩, ?_⟩
      exact le_sub (sub_cons rfl (sub_cons rfl (sub_cons rfl (sub_cons rfl (sub_nil _)))))
  rintro ⟨w, hw⟩
  dsimp only at hw ⊢
  have hg0 : 0 < Nat.gcd n.natAbs d := Nat.gcd_pos_of_pos_right _ h0
  have hgd : Nat.gcd n.natAbs d ∣ d := Nat.gcd_dvd_right _ _
  have hgn : Nat.gcd n.natAbs d ∣ n.natAbs := Nat.gcd_dvd_left _ _
  have e1 := mk_num (n := n) h0
  have e2 := mk_den (n := n) h0
  rw [ediv_abs hg0 hgn] at e1
  generalize hq : mkRat n d = q at *
  generalize Nat.gcd n.natAbs d = g at *
  have hgle : g ≤ d := Nat.le_of_dvd h0 hgd
  refine awp_seq_seq_sw ?_
  repeat first | refine swV (fun _ => rfl) ?_ | refine sw_l (fun _ => rfl) trivial ?_ | refine sw_ln (fun _ => rfl) ⟨rfl, leB rfl⟩ ?_ | refine sw_vg rfl (fun _ => rfl) trivial ?_ | refine sw_sk rfl rfl ?_
  refine sw_call rfl (fn_isOne g w hw (by omega) H) ?_
  refine SW.nil ?_
  refine awp_cond rfl (fun h => ?_) fun _ => awp_skip ?_
  · have hg1 : g = 1 := by simpa using h
    subst hg1
    rw [Nat.div_one] at e1 e2
    have e1 : q.num = n := by rw [e1]; by_cases h : n < 0 <;> simp [h] <;> omega
    obtain ⟨p, hp, fp⟩ := fn_numMake (decide (n < 0)) n.natAbs m hm hn H
    have hp := hp.of_make (z := n) (by by_cases h : n < 0 <;> simp [h] <;> omega)
    obtain ⟨pm, rfl, hpm⟩ := hp
    obtain ⟨ks, kk, kd, kt, kv⟩ := id hk
    obtain ⟨r, hr, fr⟩ := fn_add ks [] k (.lit (.slice none 0 0)) kk (.inr ⟨rfl, none, rfl⟩) kd Dig.nil (by have := short kt kv hd; omega) (by simp) H
    rw [kv, show val [] = 0 from rfl, Nat.add_zero] at hr
    refine awp_seq_sw ?_
    repeat first | refine swV (fun _ => rfl) ?_ | refine sw_l (fun _ => rfl) trivial ?_ | refine sw_ln (fun _ => rfl) ⟨rfl, leB rfl⟩ ?_ | refine sw_vg rfl (fun _ => rfl) trivial ?_ | refine sw_sk rfl rfl ?_
    refine sw_call rfl fp ?_
    repeat first | refine swV (fun _ => rfl) ?_ | refine sw_l (fun _ => rfl) trivial ?_ | refine sw_ln (fun _ => rfl) ⟨rfl, leB rfl⟩ ?_ | refine sw_vg rfl (fun _ => rfl) trivial ?_ | refine sw_sk rfl rfl ?_
    refine sw_call rfl fr ?_
    refine sw_v (bld_of [_, _, _] (fill_cons (l := [_, _]) rfl (num_imms hpm.sl).cells ⟨rfl, leB rfl⟩ rfl (fill_cons (l := [_]) rfl hr.sl.cell ⟨rfl, leB rfl⟩ rfl fill_nil))) trivial ?_
    refine sw_ln (st_agg [_, _, _] rfl rfl (frac_imms hpm.sl hr.sl) rfl rfl) ⟨rfl, leB rfl⟩ ?_
    refine SW.nil (awp_ret ?_)
    exact ⟨.inr rfl, _, rfl, ⟨pm, r, by rw [e1]; rfl, by rw [e1]; exact hpm, by rw [e2]; exact hr⟩, rfl⟩
  · obtain ⟨q1, r1, hq1, _, f1⟩ := fn_div n.natAbs g m w hm hw hn (by omega) H
    obtain ⟨q2, r2, hq2, _, f2⟩ := fn_div d g k w hk hw hd (by omega) H
    obtain ⟨p, hp, fp⟩ := fn_numMake (decide (n < 0)) (n.natAbs / g) q1 hq1 (Nat.lt_of_le_of_lt (Nat.div_le_self _ _) hn) H
    rw [← e1] at hp
    obtain ⟨pm, rfl, hpm⟩ := hp
    refine awp_seq_sw ?_
    repeat first | refine swV (fun _ => rfl) ?_ | refine sw_l (fun _ => rfl) trivial ?_ | refine sw_ln (fun _ => rfl) ⟨rfl, leB rfl⟩ ?_ | refine sw_vg rfl (fun _ => rfl) trivial ?_ | refine sw_sk rfl rfl ?_
    refine sw_call rfl f1 ?_
    repeat first | refine swV (fun _ => rfl) ?_ | refine sw_l (fun _ => rfl) trivial ?_ | refine sw_ln (fun _ => rfl) ⟨rfl, leB rfl⟩ ?_ | refine sw_vg rfl (fun _ => rfl) trivial ?_ | refine sw_sk rfl rfl ?_
    refine SW.nil (awp_seq_sw ?_)
    repeat first | refine swV (fun _ => rfl) ?_ | refine sw_l (fun _ => rfl) trivial ?_ | refine sw_ln (fun _ => rfl) ⟨rfl, leB rfl⟩ ?_ | refine sw_vg rfl (fun _ => rfl) trivial ?_ | refine sw_sk rfl rfl ?_
    refine sw_call rfl f2 ?_
    repeat first | refine swV (fun _ => rfl) ?_ | refine sw_l (fun _ => rfl) trivial ?_ | refine sw_ln (fun _ => rfl) ⟨rfl, leB rfl⟩ ?_ | refine sw_vg rfl (fun _ => rfl) trivial ?_ | refine sw_sk rfl rfl ?_
    refine SW.nil (awp_seq_sw ?_)
    repeat first | refine swV (fun _ => rfl) ?_ | refine sw_l (fun _ => rfl) trivial ?_ | refine sw_ln (fun _ => rfl) ⟨rfl, leB rfl⟩ ?_ | refine sw_vg rfl (fun _ => rfl) trivial ?_ | refine sw_sk rfl rfl ?_
    refine sw_call rfl fp ?_
    repeat first | refine swV (fun _ => rfl) ?_ | refine sw_l (fun _ => rfl) trivial ?_ | refine sw_ln (fun _ => rfl) ⟨rfl, leB rfl⟩ ?_ | refine sw_vg rfl (fun _ => rfl) trivial ?_ | refine sw_sk rfl rfl ?_
    refine sw_v (bld_of [_, _, _] (fill_cons (l := [_, _]) rfl (num_imms hpm.sl).cells ⟨rfl, leB rfl⟩ rfl (fill_cons (l := [_]) rfl hq2.sl.cell ⟨rfl, leB rfl⟩ rfl fill_nil))) trivial ?_
    refine sw_ln (st_agg [_, _, _] rfl rfl (frac_imms hpm.sl hq2.sl) rfl rfl) ⟨rfl, leB rfl⟩ ?_
    refine SW.nil (awp_ret ?_)
    exact ⟨.inr rfl, _, rfl, ⟨pm, q2, rfl, hpm, by rw [e2]; exact hq2⟩, rfl⟩
end Iso

/- Fractions of any size: whole ones, negatives, products, sums, differences, quotients, signs, comparing. -/
namespace Iso
open Go Go.Proofs
theorem pow_le_of {n k a : Nat} (e : n = 2 ^ k) (h : a ≤ k) : 2 ^ a ≤ n := by
  subst e; exact Nat.pow_le_pow_right (by decide) h
theorem le_BIG {a : Nat} (h : a ≤ 4096) : 2 ^ a ≤ BIG := pow_le_of BIG.eq_1 h
theorem lt_BIG {x a : Nat} (hx : x < 2 ^ a) (h : a ≤ 4096) : x < BIG := Nat.lt_of_lt_of_le hx (le_BIG h)
theorem lt_BIG2 {x a : Nat} (hx : x < 2 ^ a) (h : a ≤ 4096) : x < BIG * BIG := Nat.lt_of_lt_of_le (lt_BIG hx h) BIG_le
theorem mul_pow {x y a b : Nat} (hx : x < 2 ^ a) (hy : y < 2 ^ b) : x * y < 2 ^ (a + b) := by
  rw [Nat.pow_add]; exact Nat.mul_lt_mul'' hx hy
theorem Bd.mono {q : Rat} {a b : Nat} (h : Bd q a) (k : a ≤ b) : Bd q b :=
  ⟨Nat.lt_of_lt_of_le h.1 (Nat.pow_le_pow_right (by decide) k), Nat.lt_of_lt_of_le h.2 (Nat.pow_le_pow_right (by decide) k)⟩
theorem Bd.mk {n : Int} {d k : Nat} (h : n.natAbs < 2 ^ k) (hd : d < 2 ^ k) (h0 : 0 < d) : Bd (mkRat n d) k := by
  refine ⟨?_, ?_⟩
  · rw [mk_num h0, ediv_abs (Nat.gcd_pos_of_pos_right _ h0) (Nat.gcd_dvd_left _ _)]
    have := Nat.div_le_self n.natAbs (n.natAbs.gcd d)
    generalize n.natAbs / n.natAbs.gcd d = t at *
    split
    · rw [Int.natAbs_neg, Int.natAbs_natCast]; exact Nat.lt_of_le_of_lt this h
    · rw [Int.natAbs_natCast]; exact Nat.lt_of_le_of_lt this h
  · rw [mk_den h0]
    exact Nat.lt_of_le_of_lt (Nat.div_le_self _ _) hd
theorem Bd.mul {p q : Rat} {a b : Nat} (h : Bd p a) (k : Bd q b) : Bd (p * q) (a + b) := by
  rw [Rat.mul_def']
  exact Bd.mk (by rw [Int.natAbs_mul]; exact mul_pow h.1 k.1) (mul_pow h.2 k.2) (Nat.mul_pos p.den_pos q.den_pos)
theorem sum_pow {n1 n2 : Int} {d1 d2 a b : Nat} (b1 : n1.natAbs < 2 ^ a) (e1 : d1 < 2 ^ a) (b2 : n2.natAbs < 2 ^ b) (e2 : d2 < 2 ^ b) : (n1 * d2 + n2 * d1).natAbs < 2 ^ (a + b + 1) := by
  have h1 : (n1 * d2).natAbs < 2 ^ (a + b) := by rw [Int.natAbs_mul]; exact mul_pow b1 e2
  have h2 : (n2 * d1).natAbs < 2 ^ (a + b) := by rw [Int.natAbs_mul, Nat.add_comm]; exact mul_pow b2 e1
  rw [Nat.pow_succ]
  omega
theorem Bd.add {p q : Rat} {a b : Nat} (h : Bd p a) (k : Bd q b) : Bd (p + q) (a + b + 1) := by
  rw [Rat.add_def']
  exact Bd.mk (sum_pow h.1 h.2 k.1 k.2) (Nat.lt_of_lt_of_le (mul_pow h.2 k.2) (Nat.pow_le_pow_right (by decide) (by omega))) (Nat.mul_pos p.den_pos q.den_pos)
theorem Bd.neg {p : Rat} {a : Nat} (h : Bd p a) : Bd (-p) a := by
  refine ⟨?_, ?_⟩
  · rw [Rat.neg_num, Int.natAbs_neg]; exact h.1
  · rw [Rat.neg_den]; exact h.2
theorem Bd.sub {p q : Rat} {a b : Nat} (h : Bd p a) (k : Bd q b) : Bd (p - q) (a + b + 1) := by
  rw [Rat.sub_eq_add_neg]; exact h.add k.neg
theorem Bd.int {z : Int} {a : Nat} (h : z.natAbs < 2 ^ a) (ha : 1 ≤ a) : Bd (z : Rat) a := by
  refine ⟨by rw [Rat.num_intCast]; exact h, ?_⟩
  rw [Rat.den_intCast]
  exact Nat.lt_of_lt_of_le (by decide : 1 < 2 ^ 1) (Nat.pow_le_pow_right (by decide) ha)
theorem IsQ.rawB {q : Rat} {v : V} {a : Nat} (h : IsQ q v) (hb : Bd q a) (ha : a ≤ 4096) : RFrac q.num q.den v := h.raw (lt_BIG2 hb.1 ha) (lt_BIG2 hb.2 ha)
/-- 'frac.Of'. -/
theorem fn_ofQ (z : Int) (h1 : -9223372036854775808 ≤ z) (h2 : z < 9223372036854775808) (H : AH) : ∃ w, IsQ (z : Rat) w ∧ FN Tryz.prog 16 [.lit (.int .i64 z)] H w H := by
  refine fn_ex ?_
  have hB : B64 ≤ BIG * BIG := by decide +kernel
  obtain ⟨u, hu, fu⟩ := fn_numOf z h1 h2 H
  obtain ⟨w, hw, fw⟩ := fn_lowQ z 1 u _ hu mag_one (by simp only [B64] at hB; omega) (by decide) (by simp only [B64] at hB; omega) H
  rw [Rat.mkRat_one] at hw
  have fw2 : FN Tryz.prog 44 [u] H w H := by
    suffices h : ∃ v' H', FN Tryz.prog 44 [u] H v' H' ∧ (v' = w ∧ H' = H) by
      obtain ⟨v', H', h1, rfl, rfl⟩ := h; exact h1
    obtain ⟨c1, c2, c3, rfl, hc⟩ := hw.three
    obtain ⟨m, rfl, hm⟩ := hu
    refine fn_of cf44 (by simp) ?_
    show AWp _ _ _ ac44 _ _
    unfold ac44
    refine awp_seq_sw ?_
    refine sw_l (box_agg rfl (num_imms hm.sl) rfl) trivial ?_
    repeat first | refine swV (fun _ => rfl) ?_ | refine sw_l (fun _ => rfl) trivial ?_ | refine sw_ln (fun _ => rfl) ⟨rfl, leB rfl⟩ ?_ | refine sw_vg rfl (fun _ => rfl) trivial ?_ | refine sw_sk rfl rfl ?_
    refine SW.nil (awp_seq_rw hmix ?_)
    refine rw_v' (ld_agg [_, _] rfl rfl rfl (leB rfl)) trivial ?_
    refine rw_call' rfl (fn_one H) ?_
    refine rw_call' rfl fw ?_
    refine rw_ln' (st_agg [_, _, _] rfl rfl hc rfl rfl) ⟨rfl, leB rfl⟩ ?_
    refine RW.nil ⟨by kernel_rfl, awp_ret ?_⟩
    exact ⟨.inr rfl, _, rfl, rfl, rfl⟩
  obtain ⟨c1, c2, c3, rfl, hc⟩ := hw.three
  refine fn_of cf16 (by simp) ?_
  show AWp _ _ _ ac16 _ _
  unfold ac16
  refine awp_seq_sw ?_
  repeat first | refine swV (fun _ => rfl) ?_ | refine sw_l (fun _ => rfl) trivial ?_ | refine sw_ln (fun _ => rfl) ⟨rfl, leB rfl⟩ ?_ | refine sw_vg rfl (fun _ => rfl) trivial ?_ | refine sw_sk rfl rfl ?_
  refine SW.nil (awp_seq_sw ?_)
  repeat first | refine swV (fun _ => rfl) ?_ | refine sw_l (fun _ => rfl) trivial ?_ | refine sw_ln (fun _ => rfl) ⟨rfl, leB rfl⟩ ?_ | refine sw_vg rfl (fun _ => rfl) trivial ?_ | refine sw_sk rfl rfl ?_
  refine sw_call rfl fu ?_
  refine sw_call rfl fw2 ?_
  refine sw_ln (st_agg [_, _, _] rfl rfl hc rfl rfl) ⟨rfl, leB rfl⟩ ?_
  refine SW.nil (awp_ret ?_)
  exact ⟨.inr rfl, _, rfl, hw, rfl⟩
/-- 'frac.Sign'. -/
theorem fn_signQ {n : Int} {d a : Nat} {v : V} (hv : RFrac n d v) (hn : n.natAbs < 2 ^ a) (ha : a ≤ 4096) (H : AH) : FN Tryz.prog 27 [v] H (.lit (.int .i64 (sgn n))) H := by
  suffices h : ∃ v' H', FN Tryz.prog 27 [v] H v' H' ∧ (v' = .lit (.int .i64 (sgn n)) ∧ H' = H) by
    obtain ⟨v', H', h1, rfl, rfl⟩ := h; exact h1
  obtain ⟨b, m, k, nn, rfl, hm, _, im, ik, rn⟩ := hv.imms
  have fs := fn_numSignR n _ rn (lt_BIG2 hn ha) H
  refine fn_of cf27 (by simp) ?_
  show AWp _ _ _ ac27 _ _
  unfold ac27
  refine awp_seq_sw ?_
  refine sw_l (box_agg rfl (frac_imms im ik) rfl) trivial ?_
  repeat first | refine swV (fun _ => rfl) ?_ | refine sw_l (fun _ => rfl) trivial ?_ | refine sw_ln (fun _ => rfl) ⟨rfl, leB rfl⟩ ?_ | refine sw_vg rfl (fun _ => rfl) trivial ?_ | refine sw_sk rfl rfl ?_
  refine SW.nil (awp_seq_sw ?_)
  refine swV (fun _ => rfl) ?_
  refine sw_v (ld_agg [_, _] rfl rfl rfl (leB rfl)) trivial ?_
  refine sw_call rfl fs ?_
  repeat first | refine swV (fun _ => rfl) ?_ | refine sw_l (fun _ => rfl) trivial ?_ | refine sw_ln (fun _ => rfl) ⟨rfl, leB rfl⟩ ?_ | refine sw_vg rfl (fun _ => rfl) trivial ?_ | refine sw_sk rfl rfl ?_
  refine SW.nil (awp_ret ?_)
  exact ⟨.inr rfl, _, rfl, rfl, rfl⟩
/-- 'frac.Mul'. -/
theorem fn_mulQ {n1 n2 : Int} {d1 d2 : Nat} {u v : V} (a b : Nat) (hu : RFrac n1 d1 u) (hv : RFrac n2 d2 v) (b1 : n1.natAbs < 2 ^ a) (e1 : d1 < 2 ^ a) (b2 : n2.natAbs < 2 ^ b) (e2 : d2 < 2 ^ b)
    (hab : a + b ≤ 4096) (H : AH) : ∃ w, IsQ (mkRat n1 d1 * mkRat n2 d2) w ∧ FN Tryz.prog 24 [u, v] H w H := by
  refine fn_ex ?_
  obtain ⟨k1, hk1, fk1⟩ := fn_denR n1 d1 u hu (lt_BIG2 e1 (by omega)) H
  obtain ⟨k2, hk2, fk2⟩ := fn_denR n2 d2 v hv (lt_BIG2 e2 (by omega)) H
  have p1 := hu.pos
  have p2 := hv.pos
  obtain ⟨s1, m, k, nn, rfl, hm, _, im, ik, rn⟩ := hu.imms
  obtain ⟨s2, m', k', nn', rfl, hm', _, im', ik', rn'⟩ := hv.imms
  obtain ⟨p, hp, fp⟩ := fn_numMulR n1 n2 _ _ rn rn' (lt_BIG b1 (by omega)) (lt_BIG b2 (by omega)) H
  obtain ⟨x1, y1, z1, r1, t1⟩ := id hk1
  obtain ⟨x2, y2, z2, r2, t2⟩ := id hk2
  obtain ⟨q, hq, fq⟩ := fn_mul x1 x2 k1 k2 y1 y2 z1 z2 (by omega) (by omega) H
  rw [r1, r2] at hq
  obtain ⟨w, hw, fw⟩ := fn_lowQ (n1 * n2) (d1 * d2) p q hp hq (by rw [Int.natAbs_mul]; exact lt_BIG2 (mul_pow b1 b2) hab) (Nat.mul_pos p1 p2) (lt_BIG2 (mul_pow e1 e2) hab) H
  rw [← Rat.mkRat_mul_mkRat] at hw
  obtain ⟨_, _, _, rfl, hc⟩ := hw.three
  refine fn_of cf24 (by simp) ?_
  show AWp _ _ _ ac24 _ _
  unfold ac24
  refine awp_seq_sw ?_
  refine sw_l (box_agg rfl (frac_imms im ik) rfl) trivial ?_
  refine sw_l (box_agg rfl (frac_imms im' ik') rfl) trivial ?_
  repeat first | refine swV (fun _ => rfl) ?_ | refine sw_l (fun _ => rfl) trivial ?_ | refine sw_ln (fun _ => rfl) ⟨rfl, leB rfl⟩ ?_ | refine sw_vg rfl (fun _ => rfl) trivial ?_ | refine sw_sk rfl rfl ?_
  refine SW.nil (awp_seq_rw hmix ?_)
  refine rw_v' (fun _ => rfl) trivial ?_
  refine rw_v' (ld_agg [_, _] rfl rfl rfl (leB rfl)) trivial ?_
  refine rw_v' (fun _ => rfl) trivial ?_
  refine rw_v' (ld_agg [_, _] rfl rfl rfl (leB rfl)) trivial ?_
  refine rw_call' rfl fp ?_
  refine rw_v' (ld_agg [_, _, _] rfl rfl rfl (leB rfl)) trivial ?_
  refine rw_call' rfl fk1 ?_
  refine rw_v' (ld_agg [_, _, _] rfl rfl rfl (leB rfl)) trivial ?_
  refine rw_call' rfl fk2 ?_
  refine rw_call' rfl fq ?_
  refine rw_call' rfl fw ?_
  refine rw_ln' (st_agg [_, _, _] rfl rfl hc rfl rfl) ⟨rfl, leB rfl⟩ ?_
  refine RW.nil ⟨by kernel_rfl, awp_ret ?_⟩
  exact ⟨.inr rfl, _, rfl, hw, rfl⟩
/-- 'frac.Add'. -/
theorem fn_addQ {n1 n2 : Int} {d1 d2 : Nat} {u v : V} (a b : Nat) (hu : RFrac n1 d1 u) (hv : RFrac n2 d2 v) (b1 : n1.natAbs < 2 ^ a) (e1 : d1 < 2 ^ a) (b2 : n2.natAbs < 2 ^ b) (e2 : d2 < 2 ^ b)
    (hab : a + b + 1 ≤ 4096) (H : AH) : ∃ w, IsQ (mkRat n1 d1 + mkRat n2 d2) w ∧ FN Tryz.prog 26 [u, v] H w H := by
  refine fn_ex ?_
  obtain ⟨k1, hk1, fk1⟩ := fn_denR n1 d1 u hu (lt_BIG2 e1 (by omega)) H
  obtain ⟨k2, hk2, fk2⟩ := fn_denR n2 d2 v hv (lt_BIG2 e2 (by omega)) H
  obtain ⟨l1, hl1, fl1⟩ := fn_belowR n1 d1 u hu (lt_BIG2 e1 (by omega)) H
  obtain ⟨l2, hl2, fl2⟩ := fn_belowR n2 d2 v hv (lt_BIG2 e2 (by omega)) H
  have g1 := hu.pos
  have g2 := hv.pos
  obtain ⟨s1, m, k, nn, rfl, hm, _, im, ik, rn⟩ := hu.imms
  obtain ⟨s2, m', k', nn', rfl, hm', _, im', ik', rn'⟩ := hv.imms
  have c1 : (n1 * d2).natAbs < 2 ^ (a + b) := by rw [Int.natAbs_mul]; exact mul_pow b1 e2
  have c2 : (n2 * d1).natAbs < 2 ^ (a + b) := by rw [Int.natAbs_mul, Nat.add_comm]; exact mul_pow b2 e1
  have c3 := sum_pow b1 e1 b2 e2
  obtain ⟨p1, hp1, fp1⟩ := fn_numMulR n1 d2 _ l2 rn hl2 (lt_BIG b1 (by omega)) (by rw [Int.natAbs_natCast]; exact lt_BIG e2 (by omega)) H
  obtain ⟨p2, hp2, fp2⟩ := fn_numMulR n2 d1 _ l1 rn' hl1 (lt_BIG b2 (by omega)) (by rw [Int.natAbs_natCast]; exact lt_BIG e1 (by omega)) H
  obtain ⟨p, hp, fp⟩ := fn_numAdd (n1 * d2) (n2 * d1) p1 p2 hp1 hp2 (lt_BIG2 c1 (by omega)) (lt_BIG2 c2 (by omega)) (lt_BIG2 (a := a + b + 1) (by rw [Nat.pow_succ]; omega) hab) H
  obtain ⟨x1, y1, z1, r1, t1⟩ := id hk1
  obtain ⟨x2, y2, z2, r2, t2⟩ := id hk2
  obtain ⟨q, hq, fq⟩ := fn_mul x1 x2 k1 k2 y1 y2 z1 z2 (by omega) (by omega) H
  rw [r1, r2] at hq
  obtain ⟨w, hw, fw⟩ := fn_lowQ (n1 * d2 + n2 * d1) (d1 * d2) p q hp hq (lt_BIG2 c3 hab) (Nat.mul_pos g1 g2) (lt_BIG2 (mul_pow e1 e2) (by omega)) H
  rw [← Rat.mkRat_add_mkRat _ _ (by omega) (by omega)] at hw
  obtain ⟨_, _, _, rfl, hc⟩ := hw.three
  obtain ⟨pm, rfl, hpm⟩ := hp
  refine fn_of cf26 (by simp) ?_
  show AWp _ _ _ ac26 _ _
  unfold ac26
  refine awp_seq_sw ?_
  refine sw_l (box_agg rfl (frac_imms im ik) rfl) trivial ?_
  refine sw_l (box_agg rfl (frac_imms im' ik') rfl) trivial ?_
  repeat first | refine swV (fun _ => rfl) ?_ | refine sw_l (fun _ => rfl) trivial ?_ | refine sw_ln (fun _ => rfl) ⟨rfl, leB rfl⟩ ?_ | refine sw_vg rfl (fun _ => rfl) trivial ?_ | refine sw_sk rfl rfl ?_
  refine SW.nil (awp_seq_rw hmix ?_)
  refine rw_v' (fun _ => rfl) trivial ?_
  refine rw_v' (ld_agg [_, _] rfl rfl rfl (leB rfl)) trivial ?_
  refine rw_v' (ld_agg [_, _, _] rfl rfl rfl (leB rfl)) trivial ?_
  refine rw_call' rfl fl2 ?_
  refine rw_call' rfl fp1 ?_
  refine rw_v' (fun _ => rfl) trivial ?_
  refine rw_v' (ld_agg [_, _] rfl rfl rfl (leB rfl)) trivial ?_
  refine rw_v' (ld_agg [_, _, _] rfl rfl rfl (leB rfl)) trivial ?_
  refine rw_call' rfl fl1 ?_
  refine rw_call' rfl fp2 ?_
  refine rw_call' rfl fp ?_
  repeat first | refine rw_v' (fun _ => rfl) trivial ?_ | refine rw_l' (fun _ => rfl) trivial ?_ | refine rw_ln' (fun _ => rfl) ⟨rfl, leB rfl⟩ ?_ | refine rw_vg' rfl (fun _ => rfl) trivial ?_ | refine rw_sk' rfl rfl ?_
  refine rw_ln' (st_agg [_, _] rfl rfl (num_imms hpm.sl) rfl rfl) ⟨rfl, leB rfl⟩ ?_
  refine RW.nil ⟨by kernel_rfl, awp_seq_rw hmix ?_⟩
  refine rw_v' (ld_agg [_, _] rfl rfl rfl (leB rfl)) trivial ?_
  refine rw_v' (ld_agg [_, _, _] rfl rfl rfl (leB rfl)) trivial ?_
  refine rw_call' rfl fk1 ?_
  refine rw_v' (ld_agg [_, _, _] rfl rfl rfl (leB rfl)) trivial ?_
  refine rw_call' rfl fk2 ?_
  refine rw_call' rfl fq ?_
  refine rw_call' rfl fw ?_
  refine rw_ln' (st_agg [_, _, _] rfl rfl hc rfl rfl) ⟨rfl, leB rfl⟩ ?_
  refine RW.nil ⟨by kernel_rfl, awp_ret ?_⟩
  exact ⟨.inr rfl, _, rfl, hw, rfl⟩
end Iso

/- Fractions of any size: negatives, differences, quotients, comparing. -/
namespace Iso
open Go Go.Proofs
theorem div_mk (n1 n2 : Int) (d1 d2 : Nat) (h1 : 0 < d1) (h2 : 0 < d2) (h : n2 ≠ 0) :
    mkRat (if n2 < 0 then -(n1 * d2) else n1 * d2) (n2 * d1).natAbs = mkRat n1 d1 / mkRat n2 d2 := by
  have a1 : (d1 : Rat) ≠ 0 := by intro h; have := Rat.natCast_eq_zero_iff.1 h; omega
  have a2 : (d2 : Rat) ≠ 0 := by intro h; have := Rat.natCast_eq_zero_iff.1 h; omega
  have a3 : (n2 : Rat) ≠ 0 := by intro h'; exact h (Rat.intCast_eq_zero_iff.1 h')
  simp only [Rat.mkRat_eq_div]
  by_cases hn : n2 < 0
  · rw [if_pos hn]
    obtain ⟨k, rfl⟩ : ∃ k : Nat, n2 = -(k : Int) := ⟨n2.natAbs, by omega⟩
    have : ((-(k : Int)) * d1).natAbs = k * d1 := by rw [Int.natAbs_mul]; simp
    rw [this]
    simp only [Rat.intCast_neg, Rat.intCast_mul, Rat.natCast_mul, Rat.intCast_natCast] at *
    grind
  · rw [if_neg hn]
    obtain ⟨k, rfl⟩ : ∃ k : Nat, n2 = (k : Int) := ⟨n2.natAbs, by omega⟩
    have : (((k : Int)) * d1).natAbs = k * d1 := by rw [Int.natAbs_mul]; simp
    rw [this]
    simp only [Rat.intCast_mul, Rat.natCast_mul, Rat.intCast_natCast] at *
    grind
theorem IsQ.at {q : Rat} {v : V} (h : IsQ q v) : FracAt q.num q.den v := by
  obtain ⟨m, k, rfl, hm, hk⟩ := h
  exact ⟨m, k, q.den, rfl, hm, hk, .inl rfl, q.den_pos⟩
/-- 'frac.Neg', of lowest terms. -/
theorem fn_negQ {q : Rat} {v : V} {a : Nat} (hv : IsQ q v) (hb : Bd q a) (ha : a ≤ 4096) (H : AH) : ∃ w, IsQ (-q) w ∧ FN Tryz.prog 23 [v] H w H := by
  refine fn_ex ?_
  obtain ⟨k1, hk1, fk⟩ := fn_den q.num q.den v hv.at (lt_BIG2 hb.2 ha) H
  obtain ⟨m, k, rfl, hm, hk⟩ := hv
  obtain ⟨p, hp, fp⟩ := fn_numNeg q.num (.agg [.lit (.bool (decide (q.num < 0))), m]) ⟨m, rfl, hm⟩ (lt_BIG2 hb.1 ha) H
  obtain ⟨w, hw, fw⟩ := fn_lowQ (-q.num) q.den p k1 hp hk1 (by rw [Int.natAbs_neg]; exact lt_BIG2 hb.1 ha) q.den_pos (lt_BIG2 hb.2 ha) H
  rw [← Rat.neg_mkRat, Rat.mkRat_self] at hw
  obtain ⟨a, b, c, rfl, hc⟩ := hw.three
  refine fn_of cf23 (by simp) ?_
  show AWp _ _ _ ac23 _ _
  unfold ac23
  refine awp_seq_sw ?_
  refine sw_l (box_agg rfl (frac_imms hm.sl hk.sl) rfl) trivial ?_
  repeat first | refine swV (fun _ => rfl) ?_ | refine sw_l (fun _ => rfl) trivial ?_ | refine sw_ln (fun _ => rfl) ⟨rfl, leB rfl⟩ ?_ | refine sw_vg rfl (fun _ => rfl) trivial ?_ | refine sw_sk rfl rfl ?_
  refine SW.nil (awp_seq_rw hmix ?_)
  refine rw_v' (fun _ => rfl) trivial ?_
  refine rw_v' (ld_agg [_, _] rfl rfl rfl (leB rfl)) trivial ?_
  refine rw_call' rfl fp ?_
  refine rw_v' (ld_agg [_, _, _] rfl rfl rfl (leB rfl)) trivial ?_
  refine rw_call' rfl fk ?_
  refine rw_call' rfl fw ?_
  refine rw_ln' (st_agg [_, _, _] rfl rfl hc rfl rfl) ⟨rfl, leB rfl⟩ ?_
  refine RW.nil ⟨by kernel_rfl, awp_ret ?_⟩
  exact ⟨.inr rfl, _, rfl, hw, rfl⟩
theorem RFrac.three {n : Int} {d : Nat} {v : V} (h : RFrac n d v) : ∃ a b c, v = .agg [a, b, c] ∧ Imms [a, b, c] := by
  obtain ⟨b, m, k, _, rfl, _, _, im, ik, _⟩ := h.imms
  exact ⟨_, _, _, rfl, frac_imms im ik⟩
/-- 'frac.Sub'. -/
theorem fn_subQ {n1 : Int} {d1 : Nat} {q : Rat} {u v : V} (a b : Nat) (hu : RFrac n1 d1 u) (hv : IsQ q v) (b1 : n1.natAbs < 2 ^ a) (e1 : d1 < 2 ^ a) (hb : Bd q b) (hab : a + b + 1 ≤ 4096) (H : AH) :
    ∃ w, IsQ (mkRat n1 d1 - q) w ∧ FN Tryz.prog 22 [u, v] H w H := by
  refine fn_ex ?_
  obtain ⟨p, hp, fp⟩ := fn_negQ hv hb (by omega) H
  obtain ⟨w, hw, fw⟩ := fn_addQ a b hu (hp.rawB hb.neg (by omega)) b1 e1 hb.neg.1 hb.neg.2 hab H
  rw [Rat.mkRat_self, ← Rat.sub_eq_add_neg] at hw
  obtain ⟨_, _, _, rfl, iu⟩ := hu.three
  obtain ⟨_, _, _, rfl, iv⟩ := hv.three
  obtain ⟨_, _, _, rfl, iw⟩ := hw.three
  refine fn_of cf22 (by simp) ?_
  show AWp _ _ _ ac22 _ _
  unfold ac22
  refine awp_seq_sw ?_
  refine sw_l (box_agg rfl iu rfl) trivial ?_
  refine sw_l (box_agg rfl iv rfl) trivial ?_
  repeat first | refine swV (fun _ => rfl) ?_ | refine sw_l (fun _ => rfl) trivial ?_ | refine sw_ln (fun _ => rfl) ⟨rfl, leB rfl⟩ ?_ | refine sw_vg rfl (fun _ => rfl) trivial ?_ | refine sw_sk rfl rfl ?_
  refine SW.nil (awp_seq_rw hmix ?_)
  refine rw_v' (ld_agg [_, _, _] rfl rfl rfl (leB rfl)) trivial ?_
  refine rw_v' (ld_agg [_, _, _] rfl rfl rfl (leB rfl)) trivial ?_
  refine rw_call' rfl fp ?_
  refine rw_call' rfl fw ?_
  refine rw_ln' (st_agg [_, _, _] rfl rfl iw rfl rfl) ⟨rfl, leB rfl⟩ ?_
  refine RW.nil ⟨by kernel_rfl, awp_ret ?_⟩
  exact ⟨.inr rfl, _, rfl, hw, rfl⟩
/-- 'frac.Make', the lower one not nought. -/
theorem fn_makeQ (x y : Int) (u v : V) (hu : IsNum x u) (hv : IsNum y v) (bx : x.natAbs < BIG * BIG) (by_ : y.natAbs < BIG * BIG) (h0 : y ≠ 0) (H : AH) :
    ∃ w, IsQ (mkRat (if y < 0 then -x else x) y.natAbs) w ∧ FN Tryz.prog 58 [u, v] H (.tup [w, .lit (.bool true)]) H := by
  suffices h : ∃ v' H', FN Tryz.prog 58 [u, v] H v' H' ∧ ((∃ w, v' = .tup [w, .lit (.bool true)] ∧ IsQ (mkRat (if y < 0 then -x else x) y.natAbs) w) ∧ H' = H) by
    obtain ⟨v', H', h1, ⟨w, rfl, hw⟩, rfl⟩ := h; exact ⟨w, hw, h1⟩
  have fs := fn_numSign y v hv by_ H
  obtain ⟨m, rfl, hm⟩ := hu
  obtain ⟨k, rfl, hk⟩ := hv
  obtain ⟨p, hp, fp⟩ := fn_numMake (decide (x < 0) != decide (y < 0)) x.natAbs m hm bx H
  have hp := hp.of_make (z := if y < 0 then -x else x) (by by_cases h1 : x < 0 <;> by_cases h2 : y < 0 <;> simp [h1, h2] <;> omega)
  obtain ⟨w, hw, fw⟩ := fn_lowQ (if y < 0 then -x else x) y.natAbs p k hp hk (by split <;> omega) (by omega) by_ H
  obtain ⟨_, _, _, rfl, iw⟩ := hw.three
  refine fn_of cf58 (by simp) ?_
  show AWp _ _ _ ac58 _ _
  unfold ac58
  refine awp_seq_sw ?_
  refine sw_l (box_agg rfl (num_imms hm.sl) rfl) trivial ?_
  refine sw_l (box_agg rfl (num_imms hk.sl) rfl) trivial ?_
  repeat first | refine swV (fun _ => rfl) ?_ | refine sw_l (fun _ => rfl) trivial ?_ | refine sw_ln (fun _ => rfl) ⟨rfl, leB rfl⟩ ?_ | refine sw_vg rfl (fun _ => rfl) trivial ?_ | refine sw_sk rfl rfl ?_
  refine SW.nil (awp_seq_seq_sw ?_)
  refine sw_v (ld_agg [_, _] rfl rfl rfl (leB rfl)) trivial ?_
  refine sw_call rfl fs ?_
  repeat first | refine swV (fun _ => rfl) ?_ | refine sw_l (fun _ => rfl) trivial ?_ | refine sw_ln (fun _ => rfl) ⟨rfl, leB rfl⟩ ?_ | refine sw_vg rfl (fun _ => rfl) trivial ?_ | refine sw_sk rfl rfl ?_
  refine SW.nil ?_
  refine awp_cond rfl (fun h => ?_) fun h => awp_skip ?_
  · exfalso
    have h : sgn y = 0 := by simpa using h
    unfold sgn at h
    (repeat' split at h) <;> omega
  · refine awp_seq_rw hmix ?_
    repeat first | refine rw_v' (fun _ => rfl) trivial ?_ | refine rw_l' (fun _ => rfl) trivial ?_ | refine rw_ln' (fun _ => rfl) ⟨rfl, leB rfl⟩ ?_ | refine rw_vg' rfl (fun _ => rfl) trivial ?_ | refine rw_sk' rfl rfl ?_
    refine rw_call' rfl fp ?_
    repeat first | refine rw_v' (fun _ => rfl) trivial ?_ | refine rw_l' (fun _ => rfl) trivial ?_ | refine rw_ln' (fun _ => rfl) ⟨rfl, leB rfl⟩ ?_ | refine rw_vg' rfl (fun _ => rfl) trivial ?_ | refine rw_sk' rfl rfl ?_
    refine rw_call' rfl fw ?_
    refine rw_ln' (st_agg [_, _, _] rfl rfl iw rfl rfl) ⟨rfl, leB rfl⟩ ?_
    repeat first | refine rw_v' (fun _ => rfl) trivial ?_ | refine rw_l' (fun _ => rfl) trivial ?_ | refine rw_ln' (fun _ => rfl) ⟨rfl, leB rfl⟩ ?_ | refine rw_vg' rfl (fun _ => rfl) trivial ?_ | refine rw_sk' rfl rfl ?_
    refine RW.nil ⟨by kernel_rfl, awp_ret ?_⟩
    exact ⟨.inr rfl, _, rfl, ⟨_, rfl, hw⟩, rfl⟩
/-- 'frac.Div', by what is not nought. -/
theorem fn_divQ {n1 n2 : Int} {d1 d2 : Nat} {u v : V} (a b : Nat) (hu : RFrac n1 d1 u) (hv : RFrac n2 d2 v) (b1 : n1.natAbs < 2 ^ a) (e1 : d1 < 2 ^ a) (b2 : n2.natAbs < 2 ^ b) (e2 : d2 < 2 ^ b)
    (hab : a + b ≤ 4096) (h2 : n2 ≠ 0) (H : AH) : ∃ w, IsQ (mkRat n1 d1 / mkRat n2 d2) w ∧ FN Tryz.prog 33 [u, v] H (.tup [w, .lit (.bool true)]) H := by
  suffices h : ∃ v' H', FN Tryz.prog 33 [u, v] H v' H' ∧ ((∃ w, v' = .tup [w, .lit (.bool true)] ∧ IsQ (mkRat n1 d1 / mkRat n2 d2) w) ∧ H' = H) by
    obtain ⟨v', H', h1, ⟨w, rfl, hw⟩, rfl⟩ := h; exact ⟨w, hw, h1⟩
  obtain ⟨l1, hl1, fl1⟩ := fn_belowR n1 d1 u hu (lt_BIG2 e1 (by omega)) H
  obtain ⟨l2, hl2, fl2⟩ := fn_belowR n2 d2 v hv (lt_BIG2 e2 (by omega)) H
  have g1 := hu.pos
  have g2 := hv.pos
  obtain ⟨s1, m, k, nn, rfl, hm, _, im, ik, rn⟩ := hu.imms
  obtain ⟨s2, m', k', nn', rfl, hm', _, im', ik', rn'⟩ := hv.imms
  have c1 : (n1 * d2).natAbs < 2 ^ (a + b) := by rw [Int.natAbs_mul]; exact mul_pow b1 e2
  have c2 : (n2 * d1).natAbs < 2 ^ (a + b) := by rw [Int.natAbs_mul, Nat.add_comm]; exact mul_pow b2 e1
  obtain ⟨p1, hp1, fp1⟩ := fn_numMulR n1 d2 _ l2 rn hl2 (lt_BIG b1 (by omega)) (by rw [Int.natAbs_natCast]; exact lt_BIG e2 (by omega)) H
  obtain ⟨p2, hp2, fp2⟩ := fn_numMulR n2 d1 _ l1 rn' hl1 (lt_BIG b2 (by omega)) (by rw [Int.natAbs_natCast]; exact lt_BIG e1 (by omega)) H
  have hd1 : (0 : Int) < d1 := by omega
  have hneg : n2 * (d1 : Int) < 0 ↔ n2 < 0 := ⟨fun h => Int.lt_of_not_ge fun hh => by have := Int.mul_nonneg hh (Int.le_of_lt hd1); omega, fun h => Int.mul_neg_of_neg_of_pos h hd1⟩
  obtain ⟨w, hw, fw⟩ := fn_makeQ (n1 * d2) (n2 * d1) p1 p2 hp1 hp2 (lt_BIG2 c1 hab) (lt_BIG2 c2 hab) (Int.mul_ne_zero h2 (by omega)) H
  simp only [hneg] at hw
  rw [div_mk n1 n2 d1 d2 g1 g2 h2] at hw
  obtain ⟨_, _, _, rfl, iw⟩ := hw.three
  refine fn_of cf33 (by simp) ?_
  show AWp _ _ _ ac33 _ _
  unfold ac33
  refine awp_seq_sw ?_
  refine sw_l (box_agg rfl (frac_imms im ik) rfl) trivial ?_
  refine sw_l (box_agg rfl (frac_imms im' ik') rfl) trivial ?_
  repeat first | refine swV (fun _ => rfl) ?_ | refine sw_l (fun _ => rfl) trivial ?_ | refine sw_ln (fun _ => rfl) ⟨rfl, leB rfl⟩ ?_ | refine sw_vg rfl (fun _ => rfl) trivial ?_ | refine sw_sk rfl rfl ?_
  refine SW.nil (awp_seq_rw hmix ?_)
  refine rw_v' (fun _ => rfl) trivial ?_
  refine rw_v' (ld_agg [_, _] rfl rfl rfl (leB rfl)) trivial ?_
  refine rw_v' (ld_agg [_, _, _] rfl rfl rfl (leB rfl)) trivial ?_
  refine rw_call' rfl fl2 ?_
  refine rw_call' rfl fp1 ?_
  refine rw_v' (fun _ => rfl) trivial ?_
  refine rw_v' (ld_agg [_, _] rfl rfl rfl (leB rfl)) trivial ?_
  refine rw_v' (ld_agg [_, _, _] rfl rfl rfl (leB rfl)) trivial ?_
  refine rw_call' rfl fl1 ?_
  refine rw_call' rfl fp2 ?_
  refine rw_call' rfl fw ?_
  refine rw_v' (fun _ => rfl) trivial ?_
  refine rw_v' (fun _ => rfl) trivial ?_
  refine rw_ln' (st_agg [_, _, _] rfl rfl iw rfl rfl) ⟨rfl, leB rfl⟩ ?_
  repeat first | refine rw_v' (fun _ => rfl) trivial ?_ | refine rw_l' (fun _ => rfl) trivial ?_ | refine rw_ln' (fun _ => rfl) ⟨rfl, leB rfl⟩ ?_ | refine rw_vg' rfl (fun _ => rfl) trivial ?_ | refine rw_sk' rfl rfl ?_
  refine RW.nil ⟨by kernel_rfl, awp_ret ?_⟩
  exact ⟨.inr rfl, _, rfl, ⟨_, rfl, hw⟩, rfl⟩
/-- 'frac.Cmp'. -/
theorem fn_cmpQ {n1 n2 : Int} {d1 d2 : Nat} {u v : V} (a b : Nat) (hu : RFrac n1 d1 u) (hv : RFrac n2 d2 v) (b1 : n1.natAbs < 2 ^ a) (e1 : d1 < 2 ^ a) (b2 : n2.natAbs < 2 ^ b) (e2 : d2 < 2 ^ b)
    (hab : a + b ≤ 4096) (H : AH) : FN Tryz.prog 43 [u, v] H (.lit (.int .i64 (cmpZ (n1 * d2) (n2 * d1)))) H := by
  suffices h : ∃ v' H', FN Tryz.prog 43 [u, v] H v' H' ∧ (v' = .lit (.int .i64 (cmpZ (n1 * d2) (n2 * d1))) ∧ H' = H) by
    obtain ⟨v', H', h1, rfl, rfl⟩ := h; exact h1
  have hB : B64 ≤ BIG * BIG := by decide +kernel
  have f1 := fn_signQ hu b1 (by omega) H
  have f2 := fn_signQ hv b2 (by omega) H
  obtain ⟨l1, hl1, fl1⟩ := fn_belowR n1 d1 u hu (lt_BIG2 e1 (by omega)) H
  obtain ⟨l2, hl2, fl2⟩ := fn_belowR n2 d2 v hv (lt_BIG2 e2 (by omega)) H
  have h0 := hu.pos
  have h0' := hv.pos
  obtain ⟨s1, m, k, nn, rfl, hm, _, im, ik, rn⟩ := hu.imms
  obtain ⟨s2, m', k', nn', rfl, hm', _, im', ik', rn'⟩ := hv.imms
  have c1 : (n1 * d2).natAbs < 2 ^ (a + b) := by rw [Int.natAbs_mul]; exact mul_pow b1 e2
  have c2 : (n2 * d1).natAbs < 2 ^ (a + b) := by rw [Int.natAbs_mul, Nat.add_comm]; exact mul_pow b2 e1
  obtain ⟨p1, hp1, fp1⟩ := fn_numMulR n1 d2 _ l2 rn hl2 (lt_BIG b1 (by omega)) (by rw [Int.natAbs_natCast]; exact lt_BIG e2 (by omega)) H
  obtain ⟨p2, hp2, fp2⟩ := fn_numMulR n2 d1 _ l1 rn' hl1 (lt_BIG b2 (by omega)) (by rw [Int.natAbs_natCast]; exact lt_BIG e1 (by omega)) H
  have fc := fn_numCmp (n1 * d2) (n2 * d1) p1 p2 hp1 hp2 (lt_BIG2 c1 hab) (lt_BIG2 c2 hab) H
  have s1 := sgn_cases n1
  have s2 := sgn_cases n2
  obtain ⟨q1, hq1, fq1⟩ := fn_numOf (sgn n1) (by omega) (by omega) H
  obtain ⟨q2, hq2, fq2⟩ := fn_numOf (sgn n2) (by omega) (by omega) H
  have fs := fn_numCmp (sgn n1) (sgn n2) q1 q2 hq1 hq2 (by simp only [B64] at hB; omega) (by simp only [B64] at hB; omega) H
  refine fn_of cf43 (by simp) ?_
  show AWp _ _ _ ac43 _ _
  unfold ac43
  refine awp_seq_sw ?_
  refine sw_l (box_agg rfl (frac_imms im ik) rfl) trivial ?_
  refine sw_l (box_agg rfl (frac_imms im' ik') rfl) trivial ?_
  repeat first | refine swV (fun _ => rfl) ?_ | refine sw_l (fun _ => rfl) trivial ?_ | refine sw_ln (fun _ => rfl) ⟨rfl, leB rfl⟩ ?_ | refine sw_vg rfl (fun _ => rfl) trivial ?_ | refine sw_sk rfl rfl ?_
  refine SW.nil (awp_seq_rw hmix ?_)
  refine rw_v' (ld_agg [_, _, _] rfl rfl rfl (leB rfl)) trivial ?_
  refine rw_call' rfl f1 ?_
  refine rw_v' (ld_agg [_, _, _] rfl rfl rfl (leB rfl)) trivial ?_
  refine rw_call' rfl f2 ?_
  repeat first | refine rw_v' (fun _ => rfl) trivial ?_ | refine rw_l' (fun _ => rfl) trivial ?_ | refine rw_ln' (fun _ => rfl) ⟨rfl, leB rfl⟩ ?_ | refine rw_vg' rfl (fun _ => rfl) trivial ?_ | refine rw_sk' rfl rfl ?_
  refine RW.nil ⟨by kernel_rfl, awp_seq_seq_sw ?_⟩
  repeat first | refine swV (fun _ => rfl) ?_ | refine sw_l (fun _ => rfl) trivial ?_ | refine sw_ln (fun _ => rfl) ⟨rfl, leB rfl⟩ ?_ | refine sw_vg rfl (fun _ => rfl) trivial ?_ | refine sw_sk rfl rfl ?_
  refine SW.nil ?_
  refine awp_cond rfl (fun h => ?_) fun h => awp_skip ?_
  · have h : sgn n1 ≠ sgn n2 := by simpa using h
    refine awp_seq_sw ?_
    repeat first | refine swV (fun _ => rfl) ?_ | refine sw_l (fun _ => rfl) trivial ?_ | refine sw_ln (fun _ => rfl) ⟨rfl, leB rfl⟩ ?_ | refine sw_vg rfl (fun _ => rfl) trivial ?_ | refine sw_sk rfl rfl ?_
    refine sw_call rfl fq1 ?_
    repeat first | refine swV (fun _ => rfl) ?_ | refine sw_l (fun _ => rfl) trivial ?_ | refine sw_ln (fun _ => rfl) ⟨rfl, leB rfl⟩ ?_ | refine sw_vg rfl (fun _ => rfl) trivial ?_ | refine sw_sk rfl rfl ?_
    refine sw_call rfl fq2 ?_
    refine sw_call rfl fs ?_
    repeat first | refine swV (fun _ => rfl) ?_ | refine sw_l (fun _ => rfl) trivial ?_ | refine sw_ln (fun _ => rfl) ⟨rfl, leB rfl⟩ ?_ | refine sw_vg rfl (fun _ => rfl) trivial ?_ | refine sw_sk rfl rfl ?_
    refine SW.nil (awp_ret ?_)
    refine ⟨.inr rfl, _, rfl, ?_, rfl⟩
    rw [← sgn_mul n1 h0', ← sgn_mul n2 h0] at h ⊢
    rw [cmpZ_sgn h]; rfl
  · refine awp_seq_rw hmix ?_
    refine rw_v' (fun _ => rfl) trivial ?_
    refine rw_v' (ld_agg [_, _] rfl rfl rfl (leB rfl)) trivial ?_
    refine rw_v' (ld_agg [_, _, _] rfl rfl rfl (leB rfl)) trivial ?_
    refine rw_call' rfl fl2 ?_
    refine rw_call' rfl fp1 ?_
    refine rw_v' (fun _ => rfl) trivial ?_
    refine rw_v' (ld_agg [_, _] rfl rfl rfl (leB rfl)) trivial ?_
    refine rw_v' (ld_agg [_, _, _] rfl rfl rfl (leB rfl)) trivial ?_
    refine rw_call' rfl fl1 ?_
    refine rw_call' rfl fp2 ?_
    refine rw_call' rfl fc ?_
    repeat first | refine rw_v' (fun _ => rfl) trivial ?_ | refine rw_l' (fun _ => rfl) trivial ?_ | refine rw_ln' (fun _ => rfl) ⟨rfl, leB rfl⟩ ?_ | refine rw_vg' rfl (fun _ => rfl) trivial ?_ | refine rw_sk' rfl rfl ?_
    refine RW.nil ⟨by kernel_rfl, awp_ret ?_⟩
    exact ⟨.inr rfl, _, rfl, rfl, rfl⟩
theorem cmpZ_same (x y : Int) : (cmpZ x y == 0) = decide (x = y) := by
  unfold cmpZ
  by_cases h1 : x < y
  · rw [if_pos h1, decide_eq_false (by omega)]; rfl
  · rw [if_neg h1]
    by_cases h2 : y < x
    · rw [if_pos h2, decide_eq_false (by omega)]; rfl
    · rw [if_neg h2, decide_eq_true (by omega)]; rfl
/-- 'frac.Same'. -/
theorem fn_sameQ {n1 n2 : Int} {d1 d2 : Nat} {u v : V} (a b : Nat) (hu : RFrac n1 d1 u) (hv : RFrac n2 d2 v) (b1 : n1.natAbs < 2 ^ a) (e1 : d1 < 2 ^ a) (b2 : n2.natAbs < 2 ^ b) (e2 : d2 < 2 ^ b)
    (hab : a + b ≤ 4096) (H : AH) : FN Tryz.prog 13 [u, v] H (.lit (.bool (decide (mkRat n1 d1 = mkRat n2 d2)))) H := by
  suffices h : ∃ v' H', FN Tryz.prog 13 [u, v] H v' H' ∧ (v' = .lit (.bool (decide (mkRat n1 d1 = mkRat n2 d2))) ∧ H' = H) by
    obtain ⟨v', H', h1, rfl, rfl⟩ := h; exact h1
  have f1 := fn_cmpQ a b hu hv b1 e1 b2 e2 hab H
  have g1 := hu.pos
  have g2 := hv.pos
  obtain ⟨_, _, _, rfl, iu⟩ := hu.three
  obtain ⟨_, _, _, rfl, iv⟩ := hv.three
  refine fn_of cf13 (by simp) ?_
  show AWp _ _ _ ac13 _ _
  unfold ac13
  refine awp_seq_sw ?_
  refine sw_l (box_agg rfl iu rfl) trivial ?_
  refine sw_l (box_agg rfl iv rfl) trivial ?_
  repeat first | refine swV (fun _ => rfl) ?_ | refine sw_l (fun _ => rfl) trivial ?_ | refine sw_ln (fun _ => rfl) ⟨rfl, leB rfl⟩ ?_ | refine sw_vg rfl (fun _ => rfl) trivial ?_ | refine sw_sk rfl rfl ?_
  refine SW.nil (awp_seq_sw ?_)
  refine sw_v (ld_agg [_, _, _] rfl rfl rfl (leB rfl)) trivial ?_
  refine sw_v (ld_agg [_, _, _] rfl rfl rfl (leB rfl)) trivial ?_
  refine sw_call rfl f1 ?_
  repeat first | refine swV (fun _ => rfl) ?_ | refine sw_l (fun _ => rfl) trivial ?_ | refine sw_ln (fun _ => rfl) ⟨rfl, leB rfl⟩ ?_ | refine sw_vg rfl (fun _ => rfl) trivial ?_ | refine sw_sk rfl rfl ?_
  refine SW.nil (awp_ret ?_)
  refine ⟨.inr rfl, _, rfl, ?_, rfl⟩
  show V.lit (.bool (cmpZ (n1 * d2) (n2 * d1) == 0)) = _
  rw [cmpZ_same]
  congr 2
  rw [decide_eq_decide, Rat.mkRat_eq_iff (by omega) (by omega)]
end Iso
