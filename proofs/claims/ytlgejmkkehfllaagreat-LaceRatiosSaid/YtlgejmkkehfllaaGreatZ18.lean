import Derived.Test.YtlgejmkkehfllaaGreatZ17
/- Squares of distances, ratios: of whole coordinates. -/
namespace Iso
open Go Go.Proofs

theorem IsFrac.to {n m : Int} {d e : Nat} {v : V} (h : IsFrac n d v) (h1 : n = m) (h2 : d = e) : IsFrac m e v := by subst h1 h2; exact h

/-- A difference, a product, a sum of whole numbers. -/
theorem fn_isub {x y : Int} {u v : V} (a b : Nat) (hu : IsFrac x 1 u) (hv : IsFrac y 1 v) (b1 : x.natAbs ≤ a) (b2 : y.natAbs ≤ b) (l : a + b < B64) (H : AH) : ∃ w, IsFrac (x - y) 1 w ∧ FN Tryz.prog 22 [u, v] H w H := by
  obtain ⟨w, hw, fw⟩ := fn_fsub a b 1 1 hu hv b1 b2 (Nat.le_refl _) (Nat.le_refl _) (by omega) (by omega) (by decide) (by decide) (by omega) (by decide) H
  exact ⟨w, hw.to (by simp) (by simp), fw⟩
theorem fn_imul {x y : Int} {u v : V} (a b : Nat) (hu : IsFrac x 1 u) (hv : IsFrac y 1 v) (b1 : x.natAbs ≤ a) (b2 : y.natAbs ≤ b) (l1 : a < B64) (l2 : b < B64) (l : a * b < B64) (H : AH) : ∃ w, IsFrac (x * y) 1 w ∧ FN Tryz.prog 24 [u, v] H w H := by
  obtain ⟨w, hw, fw⟩ := fn_fmul a b 1 1 hu hv b1 b2 (Nat.le_refl _) (Nat.le_refl _) l1 l2 (by decide) (by decide) l (by decide) H
  exact ⟨w, hw.to rfl (by simp), fw⟩
theorem fn_iadd {x y : Int} {u v : V} (a b : Nat) (hu : IsFrac x 1 u) (hv : IsFrac y 1 v) (b1 : x.natAbs ≤ a) (b2 : y.natAbs ≤ b) (l : a + b < B64) (H : AH) : ∃ w, IsFrac (x + y) 1 w ∧ FN Tryz.prog 26 [u, v] H w H := by
  obtain ⟨w, hw, fw⟩ := fn_fadd a b 1 1 hu hv b1 b2 (Nat.le_refl _) (Nat.le_refl _) (by omega) (by omega) (by decide) (by decide) (by omega) (by decide) H
  exact ⟨w, hw.to (by simp) (by simp), fw⟩

theorem natAbs_sub_le {x y : Int} {a b : Nat} (h : x.natAbs ≤ a) (k : y.natAbs ≤ b) : (x - y).natAbs ≤ a + b := by omega
theorem natAbs_add_le {x y : Int} {a b : Nat} (h : x.natAbs ≤ a) (k : y.natAbs ≤ b) : (x + y).natAbs ≤ a + b := by omega

/-- 'spot.Dist2'. -/
theorem fn_dist2i {x1 y1 x2 y2 : Int} {u v : V} (hu : IsSpot x1 1 y1 1 u) (hv : IsSpot x2 1 y2 1 v) (b1 : x1.natAbs ≤ 1000000) (b2 : y1.natAbs ≤ 1000000) (b3 : x2.natAbs ≤ 1000000) (b4 : y2.natAbs ≤ 1000000) (H : AH) :
    ∃ w, IsFrac ((x1 - x2) * (x1 - x2) + (y1 - y2) * (y1 - y2)) 1 w ∧ FN Tryz.prog 34 [u, v] H w H := by
  refine fn_ex ?_
  obtain ⟨a, b, c, d, e, f, rfl, hx1, hy1, i1, i2, iu⟩ := hu.imms
  obtain ⟨a', b', c', d', e', f', rfl, hx2, hy2, i3, i4, iv⟩ := hv.imms
  have c1 := natAbs_sub_le b1 b3
  have c2 := natAbs_sub_le b2 b4
  obtain ⟨p, hp, fp⟩ := fn_isub 1000000 1000000 hx1 hx2 b1 b3 (by decide) H
  obtain ⟨q, hq, fq⟩ := fn_isub 1000000 1000000 hy1 hy2 b2 b4 (by decide) H
  obtain ⟨r, hr, fr⟩ := fn_imul 2000000 2000000 hp hp c1 c1 (by decide) (by decide) (by decide) H
  obtain ⟨s, hs, fs⟩ := fn_imul 2000000 2000000 hq hq c2 c2 (by decide) (by decide) (by decide) H
  obtain ⟨t, ht, ft⟩ := fn_iadd 4000000000000 4000000000000 hr hs (mul_bound c1 c1) (mul_bound c2 c2) (by decide) H
  obtain ⟨_, _, _, rfl, ip⟩ := hp.three
  obtain ⟨_, _, _, rfl, iq⟩ := hq.three
  obtain ⟨_, _, _, rfl, ir⟩ := hr.three
  obtain ⟨_, _, _, rfl, is⟩ := hs.three
  obtain ⟨_, _, _, rfl, it⟩ := ht.three
  refine fn_of cf34 (by simp) ?_
  show AWp _ _ _ ac34 _ _
  unfold ac34
  refine awp_seq_sw ?_
  refine sw_l (box_agg rfl iu rfl) trivial ?_
  refine sw_l (box_agg rfl iv rfl) trivial ?_
  repeat first | refine sw_v (fun _ => rfl) trivial ?_ | refine sw_l (fun _ => rfl) trivial ?_ | refine sw_ln (fun _ => rfl) ⟨rfl, Nat.le_of_ble_eq_true rfl⟩ ?_ | refine sw_vg rfl (fun _ => rfl) trivial ?_ | refine sw_sk rfl rfl ?_
  refine SW.nil (awp_seq_rw hmix ?_)
  refine rw_v' (fun _ => rfl) trivial ?_
  refine rw_v' (ld_agg [_, _, _] rfl rfl rfl (Nat.le_of_ble_eq_true rfl)) trivial ?_
  refine rw_v' (fun _ => rfl) trivial ?_
  refine rw_v' (ld_agg [_, _, _] rfl rfl rfl (Nat.le_of_ble_eq_true rfl)) trivial ?_
  refine rw_call' rfl fp ?_
  refine rw_v' (fun _ => rfl) trivial ?_
  refine rw_v' (ld_agg [_, _, _] rfl rfl rfl (Nat.le_of_ble_eq_true rfl)) trivial ?_
  refine rw_v' (fun _ => rfl) trivial ?_
  refine rw_v' (ld_agg [_, _, _] rfl rfl rfl (Nat.le_of_ble_eq_true rfl)) trivial ?_
  refine rw_call' rfl fq ?_
  repeat first | refine rw_v' (fun _ => rfl) trivial ?_ | refine rw_l' (fun _ => rfl) trivial ?_ | refine rw_ln' (fun _ => rfl) ⟨rfl, Nat.le_of_ble_eq_true rfl⟩ ?_ | refine rw_vg' rfl (fun _ => rfl) trivial ?_ | refine rw_sk' rfl rfl ?_
  refine rw_ln' (st_agg [_, _, _] rfl rfl ip rfl rfl) ⟨rfl, Nat.le_of_ble_eq_true rfl⟩ ?_
  refine rw_ln' (st_agg [_, _, _] rfl rfl iq rfl rfl) ⟨rfl, Nat.le_of_ble_eq_true rfl⟩ ?_
  refine RW.nil ⟨by kernel_rfl, awp_seq_rw hmix ?_⟩
  refine rw_v' (ld_agg [_, _, _] rfl rfl rfl (Nat.le_of_ble_eq_true rfl)) trivial ?_
  refine rw_v' (ld_agg [_, _, _] rfl rfl rfl (Nat.le_of_ble_eq_true rfl)) trivial ?_
  refine rw_call' rfl fr ?_
  refine rw_v' (ld_agg [_, _, _] rfl rfl rfl (Nat.le_of_ble_eq_true rfl)) trivial ?_
  refine rw_v' (ld_agg [_, _, _] rfl rfl rfl (Nat.le_of_ble_eq_true rfl)) trivial ?_
  refine rw_call' rfl fs ?_
  refine rw_call' rfl ft ?_
  refine rw_ln' (st_agg [_, _, _] rfl rfl it rfl rfl) ⟨rfl, Nat.le_of_ble_eq_true rfl⟩ ?_
  refine RW.nil ⟨by kernel_rfl, awp_ret ?_⟩
  exact ⟨.inr rfl, _, rfl, ht, rfl⟩

set_option maxHeartbeats 2000000 in
/-- 'lace.Ratio', of whole coordinates. -/
theorem fn_ratioi {px py vx vy ax ay bx by_ : Int} {u v : V} (hu : IsSpot ax 1 ay 1 u) (hv : IsSpot bx 1 by_ 1 v) (hp1 : 0 ≤ px ∧ px < 1000) (hp2 : 0 ≤ py ∧ py < 1000) (hv1 : 0 ≤ vx ∧ vx < 1000) (hv2 : 0 ≤ vy ∧ vy < 1000)
    (b1 : ax.natAbs ≤ 1000000) (b2 : ay.natAbs ≤ 1000000) (b3 : bx.natAbs ≤ 1000000) (b4 : by_.natAbs ≤ 1000000) (hne : px ≠ vx ∨ py ≠ vy) (H : AH) :
    ∃ w, IsFrac ((vx - px) * (by_ - ay) - (vy - py) * (bx - ax)) ((px - vx) * (px - vx) + (py - vy) * (py - vy)).natAbs w ∧
      FN Tryz.prog 14 [.agg [.lit (.int .i64 px), .lit (.int .i64 py)], .agg [.lit (.int .i64 vx), .lit (.int .i64 vy)], u, v] H w H := by
  refine fn_ex ?_
  obtain ⟨a, b, c, d, e, f, rfl, hax, hay, i1, i2, iu⟩ := hu.imms
  obtain ⟨a', b', c', d', e', f', rfl, hbx, hby, i3, i4, iv⟩ := hv.imms
  have w1 : IntKind.i64.wrap (vx - px) = vx - px := by rw [wrap_i64] <;> omega
  have w2 : IntKind.i64.wrap (vy - py) = vy - py := by rw [wrap_i64] <;> omega
  obtain ⟨x, hx, fx⟩ := fn_fracOf (vx - px) (by omega) (by omega) H
  obtain ⟨y, hy, fy⟩ := fn_fracOf (vy - py) (by omega) (by omega) H
  have bx1 : (vx - px).natAbs ≤ 1000 := by omega
  have by1 : (vy - py).natAbs ≤ 1000 := by omega
  have c1 := natAbs_sub_le b4 b2
  have c2 := natAbs_sub_le b3 b1
  obtain ⟨p, hp, fp⟩ := fn_isub 1000000 1000000 hby hay b4 b2 (by decide) H
  obtain ⟨q, hq, fq⟩ := fn_isub 1000000 1000000 hbx hax b3 b1 (by decide) H
  obtain ⟨r, hr, fr⟩ := fn_imul 1000 2000000 hx hp bx1 c1 (by decide) (by decide) (by decide) H
  obtain ⟨s, hs, fs⟩ := fn_imul 1000 2000000 hy hq by1 c2 (by decide) (by decide) (by decide) H
  have c3 := mul_bound bx1 c1
  have c4 := mul_bound by1 c2
  obtain ⟨t, ht, ft⟩ := fn_isub 2000000000 2000000000 hr hs c3 c4 (by decide) H
  have c5 := natAbs_sub_le c3 c4
  obtain ⟨k, hk, fk⟩ := fn_spotOf px py (by omega) (by omega) (by omega) (by omega) H
  obtain ⟨l, hl, fl⟩ := fn_spotOf vx vy (by omega) (by omega) (by omega) (by omega) H
  obtain ⟨g, hg, fg⟩ := fn_dist2i hk hl (by omega) (by omega) (by omega) (by omega) H
  have e1 : (px - vx).natAbs ≤ 1000 := by omega
  have e2 : (py - vy).natAbs ≤ 1000 := by omega
  have c6 := natAbs_add_le (mul_bound e1 e1) (mul_bound e2 e2)
  have hpos : 0 < (px - vx) * (px - vx) + (py - vy) * (py - vy) := by
    have q1 : 0 ≤ (px - vx) * (px - vx) := by rcases Int.le_total 0 (px - vx) with h | h; exact Int.mul_nonneg h h; exact Int.mul_nonneg_of_nonpos_of_nonpos h h
    have q2 : 0 ≤ (py - vy) * (py - vy) := by rcases Int.le_total 0 (py - vy) with h | h; exact Int.mul_nonneg h h; exact Int.mul_nonneg_of_nonpos_of_nonpos h h
    rcases hne with h | h
    · have : (px - vx) * (px - vx) ≠ 0 := Int.mul_ne_zero (by omega) (by omega)
      omega
    · have : (py - vy) * (py - vy) ≠ 0 := Int.mul_ne_zero (by omega) (by omega)
      omega
  obtain ⟨o, ho, fo⟩ := fn_fdiv (2000000000 + 2000000000) (1000 * 1000 + 1000 * 1000) 1 1 ht hg c5 c6 (Nat.le_refl _) (Nat.le_refl _) (by decide) (by decide) (by decide) (by decide) (by decide) (by decide) hpos H
  have ho := ho.to (m := (vx - px) * (by_ - ay) - (vy - py) * (bx - ax)) (e := ((px - vx) * (px - vx) + (py - vy) * (py - vy)).natAbs) (by simp) (by simp)
  obtain ⟨_, _, _, rfl, ix⟩ := hx.three
  obtain ⟨_, _, _, rfl, iy⟩ := hy.three
  obtain ⟨_, _, _, rfl, ip⟩ := hp.three
  obtain ⟨_, _, _, rfl, iq⟩ := hq.three
  obtain ⟨_, _, _, rfl, ir⟩ := hr.three
  obtain ⟨_, _, _, rfl, is⟩ := hs.three
  obtain ⟨_, _, _, rfl, it⟩ := ht.three
  obtain ⟨_, _, _, rfl, io⟩ := ho.three
  refine fn_of cf14 (by simp) ?_
  show AWp _ _ _ ac14 _ _
  unfold ac14
  refine awp_seq_sw ?_
  refine sw_l (fun _ => rfl) trivial ?_
  refine sw_l (fun _ => rfl) trivial ?_
  refine sw_l (box_agg rfl iu rfl) trivial ?_
  refine sw_l (box_agg rfl iv rfl) trivial ?_
  repeat first | refine sw_v (fun _ => rfl) trivial ?_ | refine sw_l (fun _ => rfl) trivial ?_ | refine sw_ln (fun _ => rfl) ⟨rfl, Nat.le_of_ble_eq_true rfl⟩ ?_ | refine sw_vg rfl (fun _ => rfl) trivial ?_ | refine sw_sk rfl rfl ?_
  refine SW.nil (awp_seq_rw hmix ?_)
  repeat first | refine rw_v' (fun _ => rfl) trivial ?_ | refine rw_l' (fun _ => rfl) trivial ?_ | refine rw_ln' (fun _ => rfl) ⟨rfl, Nat.le_of_ble_eq_true rfl⟩ ?_ | refine rw_vg' rfl (fun _ => rfl) trivial ?_ | refine rw_sk' rfl rfl ?_
  rw [w1]
  refine rw_call' rfl fx ?_
  repeat first | refine rw_v' (fun _ => rfl) trivial ?_ | refine rw_l' (fun _ => rfl) trivial ?_ | refine rw_ln' (fun _ => rfl) ⟨rfl, Nat.le_of_ble_eq_true rfl⟩ ?_ | refine rw_vg' rfl (fun _ => rfl) trivial ?_ | refine rw_sk' rfl rfl ?_
  rw [w2]
  refine rw_call' rfl fy ?_
  repeat first | refine rw_v' (fun _ => rfl) trivial ?_ | refine rw_l' (fun _ => rfl) trivial ?_ | refine rw_ln' (fun _ => rfl) ⟨rfl, Nat.le_of_ble_eq_true rfl⟩ ?_ | refine rw_vg' rfl (fun _ => rfl) trivial ?_ | refine rw_sk' rfl rfl ?_
  refine rw_ln' (st_agg [_, _, _] rfl rfl ix rfl rfl) ⟨rfl, Nat.le_of_ble_eq_true rfl⟩ ?_
  refine rw_ln' (st_agg [_, _, _] rfl rfl iy rfl rfl) ⟨rfl, Nat.le_of_ble_eq_true rfl⟩ ?_
  refine RW.nil ⟨by kernel_rfl, awp_seq_rw hmix ?_⟩
  refine rw_v' (ld_agg [_, _, _] rfl rfl rfl (Nat.le_of_ble_eq_true rfl)) trivial ?_
  refine rw_v' (fun _ => rfl) trivial ?_
  refine rw_v' (ld_agg [_, _, _] rfl rfl rfl (Nat.le_of_ble_eq_true rfl)) trivial ?_
  refine rw_v' (fun _ => rfl) trivial ?_
  refine rw_v' (ld_agg [_, _, _] rfl rfl rfl (Nat.le_of_ble_eq_true rfl)) trivial ?_
  refine rw_call' rfl fp ?_
  refine rw_call' rfl fr ?_
  refine rw_v' (ld_agg [_, _, _] rfl rfl rfl (Nat.le_of_ble_eq_true rfl)) trivial ?_
  refine rw_v' (fun _ => rfl) trivial ?_
  refine rw_v' (ld_agg [_, _, _] rfl rfl rfl (Nat.le_of_ble_eq_true rfl)) trivial ?_
  refine rw_v' (fun _ => rfl) trivial ?_
  refine rw_v' (ld_agg [_, _, _] rfl rfl rfl (Nat.le_of_ble_eq_true rfl)) trivial ?_
  refine rw_call' rfl fq ?_
  refine rw_call' rfl fs ?_
  refine rw_call' rfl ft ?_
  repeat first | refine rw_v' (fun _ => rfl) trivial ?_ | refine rw_l' (fun _ => rfl) trivial ?_ | refine rw_ln' (fun _ => rfl) ⟨rfl, Nat.le_of_ble_eq_true rfl⟩ ?_ | refine rw_vg' rfl (fun _ => rfl) trivial ?_ | refine rw_sk' rfl rfl ?_
  refine rw_ln' (st_agg [_, _, _] rfl rfl it rfl rfl) ⟨rfl, Nat.le_of_ble_eq_true rfl⟩ ?_
  refine RW.nil ⟨by kernel_rfl, awp_seq_rw hmix ?_⟩
  refine rw_v' (ld_agg [_, _, _] rfl rfl rfl (Nat.le_of_ble_eq_true rfl)) trivial ?_
  refine rw_v' (ld_agg [_, _] rfl rfl rfl (Nat.le_of_ble_eq_true rfl)) trivial ?_
  refine rw_call' rfl fk ?_
  refine rw_v' (ld_agg [_, _] rfl rfl rfl (Nat.le_of_ble_eq_true rfl)) trivial ?_
  refine rw_call' rfl fl ?_
  refine rw_call' rfl fg ?_
  refine rw_call' rfl fo ?_
  repeat first | refine rw_v' (fun _ => rfl) trivial ?_ | refine rw_l' (fun _ => rfl) trivial ?_ | refine rw_ln' (fun _ => rfl) ⟨rfl, Nat.le_of_ble_eq_true rfl⟩ ?_ | refine rw_vg' rfl (fun _ => rfl) trivial ?_ | refine rw_sk' rfl rfl ?_
  refine rw_ln' (st_agg [_, _, _] rfl rfl io rfl rfl) ⟨rfl, Nat.le_of_ble_eq_true rfl⟩ ?_
  repeat first | refine rw_v' (fun _ => rfl) trivial ?_ | refine rw_l' (fun _ => rfl) trivial ?_ | refine rw_ln' (fun _ => rfl) ⟨rfl, Nat.le_of_ble_eq_true rfl⟩ ?_ | refine rw_vg' rfl (fun _ => rfl) trivial ?_ | refine rw_sk' rfl rfl ?_
  refine RW.nil ⟨by kernel_rfl, awp_seq_sw ?_⟩
  refine sw_v (ld_agg [_, _, _] rfl rfl rfl (Nat.le_of_ble_eq_true rfl)) trivial ?_
  refine sw_ln (st_agg [_, _, _] rfl rfl io rfl rfl) ⟨rfl, Nat.le_of_ble_eq_true rfl⟩ ?_
  refine SW.nil (awp_ret ?_)
  exact ⟨.inr rfl, _, rfl, ho, rfl⟩

end Iso
