import Derived.Test.YtlgejmkkehfllaaGreatZ18
import Derived.Test.YtlgejmkkehfllaaGreatZ16
/- Law 15, LaceRatios: the walk. -/
namespace Iso
open Go Go.Proofs

theorem and255 (a : Int) : ∃ m : Int, 0 ≤ m ∧ m < 256 ∧ IntKind.i64.wrap ((BitVec.ofInt IntKind.i64.bits a &&& BitVec.ofInt IntKind.i64.bits 255).toNat : Int) = m := by
  have h : (BitVec.ofInt IntKind.i64.bits a &&& BitVec.ofInt IntKind.i64.bits 255).toNat < 256 := by
    rw [BitVec.toNat_and]
    have h2 : (BitVec.ofInt IntKind.i64.bits 255).toNat = 255 := by decide +kernel
    rw [h2]
    exact Nat.lt_of_le_of_lt Nat.and_le_right (by decide)
  exact ⟨_, by omega, by omega, wrap_i64 (by omega) (by omega)⟩

theorem eqc_two {d : Option Nat} {ev : Opd → T} {Lg : Nat → Option (List V)} {x y : Opd} {a b c e : Int} (hx : ev x = .v (.agg [.lit (.int .i64 a), .lit (.int .i64 b)])) (hy : ev y = .v (.agg [.lit (.int .i64 c), .lit (.int .i64 e)])) :
    ∀ H, aopE [] d (.eqc false [true, true] x y) ev Lg H = some ⟨True, .v (.lit (.bool (decide (a = c ∧ b = e)))), {}⟩ := fun H => by
  have : eqVs [true, true] [.lit (.int .i64 a), .lit (.int .i64 b)] [.lit (.int .i64 c), .lit (.int .i64 e)] = some (decide (a = c ∧ b = e)) := by
    have e1 : eqV true (.lit (.int .i64 a)) (.lit (.int .i64 c)) = some (decide (a = c)) := by simp only [eqV, if_true]; by_cases h : a = c <;> simp [h]
    have e2 : eqV true (.lit (.int .i64 b)) (.lit (.int .i64 e)) = some (decide (b = e)) := by simp only [eqV, if_true]; by_cases h : b = e <;> simp [h]
    unfold eqVs
    rw [e1]
    unfold eqVs
    rw [e2]
    by_cases h1 : a = c <;> by_cases h2 : b = e <;> simp [h1, h2, eqVs]
  simp only [aopE, hx, hy, this]
  rfl

/-- The two ratios. -/
theorem two_ratios {p1 p2 v1 v2 n t : Int} (hp1 : 0 ≤ p1 ∧ p1 < 256) (hp2 : 0 ≤ p2 ∧ p2 < 256) (hv1 : 0 ≤ v1 ∧ v1 < 256) (hv2 : 0 ≤ v2 ∧ v2 < 256) (hn : -100 ≤ n ∧ n < 156) (ht : -100 ≤ t ∧ t < 156) (hne : p1 ≠ v1 ∨ p2 ≠ v2) (H : AH) :
    ∃ sa sb r1 r2 : V, ∃ fn fm : V,
      FN Tryz.prog 15 [.agg [.lit (.int .i64 (p1 + t * (v1 - p1))), .lit (.int .i64 (p2 + t * (v2 - p2)))]] H sa H ∧
      FN Tryz.prog 15 [.agg [.lit (.int .i64 (p1 + t * (v1 - p1) - n * (v2 - p2))), .lit (.int .i64 (p2 + t * (v2 - p2) + n * (v1 - p1)))]] H sb H ∧
      FN Tryz.prog 14 [.agg [.lit (.int .i64 p1), .lit (.int .i64 p2)], .agg [.lit (.int .i64 v1), .lit (.int .i64 v2)], sa, sb] H r1 H ∧
      FN Tryz.prog 14 [.agg [.lit (.int .i64 p1), .lit (.int .i64 p2)], .agg [.lit (.int .i64 v1), .lit (.int .i64 v2)], sb, sa] H r2 H ∧
      FN Tryz.prog 16 [.lit (.int .i64 n)] H fn H ∧ FN Tryz.prog 16 [.lit (.int .i64 (-n))] H fm H ∧
      FN Tryz.prog 13 [r1, fn] H (.lit (.bool true)) H ∧ FN Tryz.prog 13 [r2, fm] H (.lit (.bool true)) H := by
  have x1 : (v1 - p1).natAbs ≤ 255 := by omega
  have y1 : (v2 - p2).natAbs ≤ 255 := by omega
  have t1 : t.natAbs ≤ 156 := by omega
  have n1 : n.natAbs ≤ 156 := by omega
  have m1 := mul_bound t1 x1
  have m2 := mul_bound t1 y1
  have m3 := mul_bound n1 y1
  have m4 := mul_bound n1 x1
  generalize hax : p1 + t * (v1 - p1) = ax
  generalize hay : p2 + t * (v2 - p2) = ay
  generalize hbx : ax - n * (v2 - p2) = bx
  generalize hby : ay + n * (v1 - p1) = by_
  have k1 : ax.natAbs ≤ 1000000 := by omega
  have k2 : ay.natAbs ≤ 1000000 := by omega
  have k3 : bx.natAbs ≤ 1000000 := by omega
  have k4 : by_.natAbs ≤ 1000000 := by omega
  obtain ⟨sa, ha, fa⟩ := fn_spotOf ax ay (by omega) (by omega) (by omega) (by omega) H
  obtain ⟨sb, hb, fb⟩ := fn_spotOf bx by_ (by omega) (by omega) (by omega) (by omega) H
  obtain ⟨r1, hr1, f1⟩ := fn_ratioi ha hb ⟨hp1.1, by omega⟩ ⟨hp2.1, by omega⟩ ⟨hv1.1, by omega⟩ ⟨hv2.1, by omega⟩ k1 k2 k3 k4 hne H
  obtain ⟨r2, hr2, f2⟩ := fn_ratioi hb ha ⟨hp1.1, by omega⟩ ⟨hp2.1, by omega⟩ ⟨hv1.1, by omega⟩ ⟨hv2.1, by omega⟩ k3 k4 k1 k2 hne H
  obtain ⟨fn, hfn, f3⟩ := fn_fracOf n (by omega) (by omega) H
  obtain ⟨fm, hfm, f4⟩ := fn_fracOf (-n) (by omega) (by omega) H
  have e1 : (p1 - v1).natAbs ≤ 255 := by omega
  have e2 : (p2 - v2).natAbs ≤ 255 := by omega
  have hD := natAbs_add_le (mul_bound e1 e1) (mul_bound e2 e2)
  have hN1 : ((v1 - p1) * (by_ - ay) - (v2 - p2) * (bx - ax)).natAbs ≤ 255 * 2000000 + 255 * 2000000 :=
    natAbs_sub_le (mul_bound x1 (natAbs_sub_le k4 k2)) (mul_bound y1 (natAbs_sub_le k3 k1))
  have hN2 : ((v1 - p1) * (ay - by_) - (v2 - p2) * (ax - bx)).natAbs ≤ 255 * 2000000 + 255 * 2000000 :=
    natAbs_sub_le (mul_bound x1 (natAbs_sub_le k2 k4)) (mul_bound y1 (natAbs_sub_le k1 k3))
  have hpos : 0 ≤ (p1 - v1) * (p1 - v1) + (p2 - v2) * (p2 - v2) := by
    have q1 : 0 ≤ (p1 - v1) * (p1 - v1) := by rcases Int.le_total 0 (p1 - v1) with h | h; exact Int.mul_nonneg h h; exact Int.mul_nonneg_of_nonpos_of_nonpos h h
    have q2 : 0 ≤ (p2 - v2) * (p2 - v2) := by rcases Int.le_total 0 (p2 - v2) with h | h; exact Int.mul_nonneg h h; exact Int.mul_nonneg_of_nonpos_of_nonpos h h
    omega
  have hcast : ((((p1 - v1) * (p1 - v1) + (p2 - v2) * (p2 - v2)).natAbs : Nat) : Int) = (p1 - v1) * (p1 - v1) + (p2 - v2) * (p2 - v2) := Int.natAbs_of_nonneg hpos
  have g1 := fn_fsame (255 * 2000000 + 255 * 2000000) 156 (255 * 255 + 255 * 255) 1 hr1 hfn hN1 n1 hD (Nat.le_refl _) (by decide) (by decide) (by decide) (by decide) (by decide) (by decide) H
  have g2 := fn_fsame (255 * 2000000 + 255 * 2000000) 156 (255 * 255 + 255 * 255) 1 hr2 hfm hN2 (by rw [Int.natAbs_neg]; exact n1) hD (Nat.le_refl _) (by decide) (by decide) (by decide) (by decide) (by decide) (by decide) H
  have q1 : ((v1 - p1) * (by_ - ay) - (v2 - p2) * (bx - ax)) * ((1 : Nat) : Int) = n * ((((p1 - v1) * (p1 - v1) + (p2 - v2) * (p2 - v2)).natAbs : Nat) : Int) := by
    rw [hcast, ← hby, ← hbx]; grind
  have q2 : ((v1 - p1) * (ay - by_) - (v2 - p2) * (ax - bx)) * ((1 : Nat) : Int) = -n * ((((p1 - v1) * (p1 - v1) + (p2 - v2) * (p2 - v2)).natAbs : Nat) : Int) := by
    rw [hcast, ← hby, ← hbx]; grind
  rw [decide_eq_true q1] at g1
  rw [decide_eq_true q2] at g2
  exact ⟨sa, sb, r1, r2, fn, fm, fa, fb, f1, f2, f3, f4, g1, g2⟩

set_option maxHeartbeats 2000000 in
/-- 'LaceRatios' answers true, whatever it is called with. -/
theorem fn_law3 (p1 p2 v1 v2 k1 k2 : Int) (H : AH) : FN Tryz.prog 3 [.agg [.lit (.int .i64 p1), .lit (.int .i64 p2)], .agg [.lit (.int .i64 v1), .lit (.int .i64 v2)], .agg [.lit (.int .i64 k1), .lit (.int .i64 k2)]] H (.lit (.bool true)) H := by
  suffices h : ∃ v' H', FN Tryz.prog 3 [.agg [.lit (.int .i64 p1), .lit (.int .i64 p2)], .agg [.lit (.int .i64 v1), .lit (.int .i64 v2)], .agg [.lit (.int .i64 k1), .lit (.int .i64 k2)]] H v' H' ∧ (v' = .lit (.bool true) ∧ H' = H) by
    obtain ⟨v', H', h1, rfl, rfl⟩ := h; exact h1
  obtain ⟨q1, a1, b1, e1⟩ := and255 p1
  obtain ⟨q2, a2, b2, e2⟩ := and255 p2
  obtain ⟨u1, a3, b3, e3⟩ := and255 v1
  obtain ⟨u2, a4, b4, e4⟩ := and255 v2
  obtain ⟨m1, a5, b5, e5⟩ := and255 k1
  obtain ⟨m2, a6, b6, e6⟩ := and255 k2
  have w5 : IntKind.i64.wrap (m1 - 100) = m1 - 100 := wrap_i64 (by omega) (by omega)
  have w6 : IntKind.i64.wrap (m2 - 100) = m2 - 100 := wrap_i64 (by omega) (by omega)
  refine fn_of cf3 (by simp) ?_
  show AWp _ _ _ ac3 _ _
  unfold ac3
  refine awp_seq_sw ?_
  repeat first | refine sw_v (fun _ => rfl) trivial ?_ | refine sw_l (fun _ => rfl) trivial ?_ | refine sw_ln (fun _ => rfl) ⟨rfl, Nat.le_of_ble_eq_true rfl⟩ ?_ | refine sw_vg rfl (fun _ => rfl) trivial ?_ | refine sw_sk rfl rfl ?_
  refine SW.nil (awp_seq_seq_sw ?_)
  refine sw_call rfl (fn_fit15 H) ?_
  repeat first | refine sw_v (fun _ => rfl) trivial ?_ | refine sw_l (fun _ => rfl) trivial ?_ | refine sw_ln (fun _ => rfl) ⟨rfl, Nat.le_of_ble_eq_true rfl⟩ ?_ | refine sw_vg rfl (fun _ => rfl) trivial ?_ | refine sw_sk rfl rfl ?_
  refine SW.nil (awp_cond rfl (fun h => by cases h) fun _ => awp_skip ?_)
  refine awp_seq_rw hmix ?_
  repeat first | refine rw_v' (fun _ => rfl) trivial ?_ | refine rw_l' (fun _ => rfl) trivial ?_ | refine rw_ln' (fun _ => rfl) ⟨rfl, Nat.le_of_ble_eq_true rfl⟩ ?_ | refine rw_vg' rfl (fun _ => rfl) trivial ?_ | refine rw_sk' rfl rfl ?_
  rw [e1, e2, e3, e4]
  refine RW.nil ⟨by kernel_rfl, awp_seq_seq_sw ?_⟩
  refine sw_v (ld_agg [_, _] rfl rfl rfl (Nat.le_of_ble_eq_true rfl)) trivial ?_
  refine sw_v (ld_agg [_, _] rfl rfl rfl (Nat.le_of_ble_eq_true rfl)) trivial ?_
  refine sw_v (eqc_two rfl rfl) trivial ?_
  refine SW.nil ?_
  refine awp_cond rfl (fun h => ?_) fun h => awp_skip ?_
  · refine awp_seq_sw ?_
    repeat first | refine sw_v (fun _ => rfl) trivial ?_ | refine sw_l (fun _ => rfl) trivial ?_ | refine sw_ln (fun _ => rfl) ⟨rfl, Nat.le_of_ble_eq_true rfl⟩ ?_ | refine sw_vg rfl (fun _ => rfl) trivial ?_ | refine sw_sk rfl rfl ?_
    refine SW.nil (awp_ret ?_)
    exact ⟨.inr rfl, _, rfl, rfl, rfl⟩
  have hne : q1 ≠ u1 ∨ q2 ≠ u2 := by
    have := of_decide_eq_false h
    omega
  generalize hnn : m1 - 100 = n at w5
  generalize htt : m2 - 100 = t at w6
  have hn : -100 ≤ n ∧ n < 156 := by omega
  have ht : -100 ≤ t ∧ t < 156 := by omega
  obtain ⟨sa, sb, r1, r2, fn, fm, fa, fb, f1, f2, f3, f4, g1, g2⟩ := two_ratios ⟨a1, b1⟩ ⟨a2, b2⟩ ⟨a3, b3⟩ ⟨a4, b4⟩ hn ht hne H
  have x1 : (u1 - q1).natAbs ≤ 255 := by omega
  have y1 : (u2 - q2).natAbs ≤ 255 := by omega
  have t1 : t.natAbs ≤ 156 := by omega
  have n1 : n.natAbs ≤ 156 := by omega
  have z1 := mul_bound t1 x1
  have z2 := mul_bound t1 y1
  have z3 := mul_bound n1 y1
  have z4 := mul_bound n1 x1
  have wx : IntKind.i64.wrap (u1 - q1) = u1 - q1 := wrap_i64 (by omega) (by omega)
  have wy : IntKind.i64.wrap (u2 - q2) = u2 - q2 := wrap_i64 (by omega) (by omega)
  have c1 : IntKind.i64.wrap (t * (u1 - q1)) = t * (u1 - q1) := wrap_i64 (by omega) (by omega)
  have c2 : IntKind.i64.wrap (t * (u2 - q2)) = t * (u2 - q2) := wrap_i64 (by omega) (by omega)
  have c3 : IntKind.i64.wrap (n * (u2 - q2)) = n * (u2 - q2) := wrap_i64 (by omega) (by omega)
  have c4 : IntKind.i64.wrap (n * (u1 - q1)) = n * (u1 - q1) := wrap_i64 (by omega) (by omega)
  have d1 : IntKind.i64.wrap (q1 + t * (u1 - q1)) = q1 + t * (u1 - q1) := wrap_i64 (by omega) (by omega)
  have d2 : IntKind.i64.wrap (q2 + t * (u2 - q2)) = q2 + t * (u2 - q2) := wrap_i64 (by omega) (by omega)
  have d3 : IntKind.i64.wrap (q1 + t * (u1 - q1) - n * (u2 - q2)) = q1 + t * (u1 - q1) - n * (u2 - q2) := wrap_i64 (by omega) (by omega)
  have d4 : IntKind.i64.wrap (q2 + t * (u2 - q2) + n * (u1 - q1)) = q2 + t * (u2 - q2) + n * (u1 - q1) := wrap_i64 (by omega) (by omega)
  have d5 : IntKind.i64.wrap (0 - n) = -n := by rw [show (0 : Int) - n = -n by omega]; exact wrap_i64 (by omega) (by omega)
  refine awp_seq_rw hmix ?_
  refine rw_v' (fun _ => rfl) ⟨by omega, by omega⟩ ?_
  repeat first | refine rw_v' (fun _ => rfl) trivial ?_ | refine rw_l' (fun _ => rfl) trivial ?_ | refine rw_ln' (fun _ => rfl) ⟨rfl, Nat.le_of_ble_eq_true rfl⟩ ?_ | refine rw_vg' rfl (fun _ => rfl) trivial ?_ | refine rw_sk' rfl rfl ?_
  refine rw_v' (fun _ => rfl) ⟨by omega, by omega⟩ ?_
  repeat first | refine rw_v' (fun _ => rfl) trivial ?_ | refine rw_l' (fun _ => rfl) trivial ?_ | refine rw_ln' (fun _ => rfl) ⟨rfl, Nat.le_of_ble_eq_true rfl⟩ ?_ | refine rw_vg' rfl (fun _ => rfl) trivial ?_ | refine rw_sk' rfl rfl ?_
  rw [e5, e6, hnn, htt, w5, w6]
  refine RW.nil ⟨by kernel_rfl, awp_seq_rw hmix ?_⟩
  repeat first | refine rw_v' (fun _ => rfl) trivial ?_ | refine rw_l' (fun _ => rfl) trivial ?_ | refine rw_ln' (fun _ => rfl) ⟨rfl, Nat.le_of_ble_eq_true rfl⟩ ?_ | refine rw_vg' rfl (fun _ => rfl) trivial ?_ | refine rw_sk' rfl rfl ?_
  rw [wx, wy]
  refine RW.nil ⟨by kernel_rfl, awp_seq_sw ?_⟩
  repeat first | refine sw_v (fun _ => rfl) trivial ?_ | refine sw_l (fun _ => rfl) trivial ?_ | refine sw_ln (fun _ => rfl) ⟨rfl, Nat.le_of_ble_eq_true rfl⟩ ?_ | refine sw_vg rfl (fun _ => rfl) trivial ?_ | refine sw_sk rfl rfl ?_
  rw [c1, c2, d1, d2]
  refine SW.nil (awp_seq_sw ?_)
  repeat first | refine sw_v (fun _ => rfl) trivial ?_ | refine sw_l (fun _ => rfl) trivial ?_ | refine sw_ln (fun _ => rfl) ⟨rfl, Nat.le_of_ble_eq_true rfl⟩ ?_ | refine sw_vg rfl (fun _ => rfl) trivial ?_ | refine sw_sk rfl rfl ?_
  rw [c3, c4, d3, d4]
  refine SW.nil (awp_seq_rw hmix ?_)
  refine rw_v' (ld_agg [_, _] rfl rfl rfl (Nat.le_of_ble_eq_true rfl)) trivial ?_
  refine rw_v' (ld_agg [_, _] rfl rfl rfl (Nat.le_of_ble_eq_true rfl)) trivial ?_
  refine rw_v' (ld_agg [_, _] rfl rfl rfl (Nat.le_of_ble_eq_true rfl)) trivial ?_
  refine rw_call' rfl fa ?_
  refine rw_v' (ld_agg [_, _] rfl rfl rfl (Nat.le_of_ble_eq_true rfl)) trivial ?_
  refine rw_call' rfl fb ?_
  refine rw_call' rfl f1 ?_
  refine rw_v' (fun _ => rfl) trivial ?_
  refine rw_call' rfl f3 ?_
  refine rw_call' rfl g1 ?_
  refine rw_v' (fun _ => rfl) trivial ?_
  refine rw_vg' rfl (ld_agg [_, _] rfl rfl rfl (Nat.le_of_ble_eq_true rfl)) trivial ?_
  refine rw_vg' rfl (ld_agg [_, _] rfl rfl rfl (Nat.le_of_ble_eq_true rfl)) trivial ?_
  refine rw_vg' rfl (ld_agg [_, _] rfl rfl rfl (Nat.le_of_ble_eq_true rfl)) trivial ?_
  refine rw_callg' rfl rfl fb ?_
  refine rw_vg' rfl (ld_agg [_, _] rfl rfl rfl (Nat.le_of_ble_eq_true rfl)) trivial ?_
  refine rw_callg' rfl rfl fa ?_
  refine rw_callg' rfl rfl f2 ?_
  refine rw_vg' rfl (fun _ => rfl) trivial ?_
  refine rw_vg' rfl (fun _ => rfl) trivial ?_
  rw [d5]
  refine rw_callg' rfl rfl f4 ?_
  refine rw_callg' rfl rfl g2 ?_
  repeat first | refine rw_v' (fun _ => rfl) trivial ?_ | refine rw_l' (fun _ => rfl) trivial ?_ | refine rw_ln' (fun _ => rfl) ⟨rfl, Nat.le_of_ble_eq_true rfl⟩ ?_ | refine rw_vg' rfl (fun _ => rfl) trivial ?_ | refine rw_sk' rfl rfl ?_
  refine RW.nil ⟨by kernel_rfl, awp_ret ?_⟩
  exact ⟨.inr rfl, _, rfl, rfl, rfl⟩

end Iso
