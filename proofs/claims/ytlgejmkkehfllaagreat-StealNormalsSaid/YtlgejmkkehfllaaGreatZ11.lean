import Derived.Test.YtlgejmkkehfllaaGreatZ10
import Derived.Test.YtlgejmkkehfllaaGreatZ3
import Derived.Test.YtlgejmkkehfllaaGreatProg
/- Comparing fractions. -/
namespace Iso
open Go Go.Proofs
theorem cmpZ_sgn {x y : Int} (h : sgn x ≠ sgn y) : cmpZ (sgn x) (sgn y) = cmpZ x y := by
  rcases Int.lt_trichotomy (sgn x) (sgn y) with h1 | h1 | h1
  · rw [sgn_lt h1]; simp [cmpZ, h1]
  · exact absurd h1 h
  · rw [sgn_gt h1]; simp only [cmpZ]; rw [if_neg (by omega), if_pos h1]
/-- 'frac.Cmp'. -/
theorem fn_fracCmp (n1 n2 : Int) (d1 d2 : Nat) (u v : V) (hu : FracAt n1 d1 u) (hv : FracAt n2 d2 v) (b1 : n1.natAbs < B64) (b2 : n2.natAbs < B64) (e1 : d1 < B64) (e2 : d2 < B64)
    (c1 : (n1 * d2).natAbs < B64) (c2 : (n2 * d1).natAbs < B64) (H : AH) : FN Tryz.prog 43 [u, v] H (.lit (.int .i64 (cmpZ (n1 * d2) (n2 * d1)))) H := by
  suffices h : ∃ v' H', FN Tryz.prog 43 [u, v] H v' H' ∧ (v' = .lit (.int .i64 (cmpZ (n1 * d2) (n2 * d1))) ∧ H' = H) by
    obtain ⟨v', H', h1, rfl, rfl⟩ := h; exact h1
  have hB : B64 ≤ BIG * BIG := by decide +kernel
  have hB1 := big64
  have f1 := fn_fsign (IsFrac.at hu) b1 H
  have f2 := fn_fsign (IsFrac.at hv) b2 H
  obtain ⟨l1, hl1, fl1⟩ := fn_below n1 d1 u hu (by omega) H
  obtain ⟨l2, hl2, fl2⟩ := fn_below n2 d2 v hv (by omega) H
  obtain ⟨m, k, e, rfl, hm, hk, he, h0⟩ := hu
  obtain ⟨m', k', e', rfl, hm', hk', he', h0'⟩ := hv
  obtain ⟨p1, hp1, fp1⟩ := fn_numMul n1 d2 (.agg [.lit (.bool (decide (n1 < 0))), m]) l2 ⟨m, rfl, hm⟩ hl2 (by omega) (by omega) H
  obtain ⟨p2, hp2, fp2⟩ := fn_numMul n2 d1 (.agg [.lit (.bool (decide (n2 < 0))), m']) l1 ⟨m', rfl, hm'⟩ hl1 (by omega) (by omega) H
  have fc := fn_numCmp (n1 * d2) (n2 * d1) p1 p2 hp1 hp2 (by omega) (by omega) H
  have s1 := sgn_cases n1
  have s2 := sgn_cases n2
  obtain ⟨q1, hq1, fq1⟩ := fn_numOf (sgn n1) (by omega) (by omega) H
  obtain ⟨q2, hq2, fq2⟩ := fn_numOf (sgn n2) (by omega) (by omega) H
  have fs := fn_numCmp (sgn n1) (sgn n2) q1 q2 hq1 hq2 (by simp only [B64] at hB; omega) (by simp only [B64] at hB; omega) H
  refine fn_of cf43 (by simp) ?_
  show AWp _ _ _ ac43 _ _
  unfold ac43
  refine awp_seq_sw ?_
  refine sw_l (box_agg rfl (frac_imms hm.sl hk.sl) rfl) trivial ?_
  refine sw_l (box_agg rfl (frac_imms hm'.sl hk'.sl) rfl) trivial ?_
  repeat first | refine swV (fun _ => rfl) ?_ | refine sw_l (fun _ => rfl) trivial ?_ | refine sw_ln (fun _ => rfl) ⟨rfl, leB rfl⟩ ?_ | refine sw_vg rfl (fun _ => rfl) trivial ?_ | refine sw_sk rfl rfl ?_
  refine SW.nil (awp_seq_rw hmix ?_)
  refine rw_v' (ld_agg [_, _, _] rfl rfl rfl (leB rfl)) trivial ?_
  refine rw_call' rfl f1 ?_
  refine rw_v' (ld_agg [_, _, _] rfl rfl rfl (leB rfl)) trivial ?_
  refine rw_call' rfl f2 ?_
  repeat first | refine rw_v' (fun _ => rfl) trivial ?_ | refine rw_l' (fun _ => rfl) trivial ?_ | refine rw_ln' (fun _ => rfl) ⟨rfl, leB rfl⟩ ?_ | refine rw_vg' rfl (fun _ => rfl) trivial ?_ | refine rw_sk' rfl rfl ?_
  refine RW.nil ⟨rfl, awp_seq_seq_sw ?_⟩
  repeat first | refine swV (fun _ => rfl) ?_ | refine sw_l (fun _ => rfl) trivial ?_ | refine sw_ln (fun _ => rfl) ⟨rfl, leB rfl⟩ ?_ | refine sw_vg rfl (fun _ => rfl) trivial ?_ | refine sw_sk rfl rfl ?_
  refine SW.nil ?_
  refine awp_cond rfl (fun h => ?_) fun h => awp_skip ?_
  · have h : sgn n1 ≠ sgn n2 := by simpa using h
    refine awp_seq_sw ?_
    repeat first | refine swV (fun _ => rfl) ?_ | refine sw_l (fun _ => rfl) trivial ?_ | refine sw_ln (fun _ => rfl) ⟨rfl, leB rfl⟩ ?_ | refine sw_vg rfl (fun _ => rfl) trivial ?_ | refine sw_sk rfl rfl ?_
    refine sw_call rfl fq1 ?_
    repeat first | refine swV (fun _ => rfl) ?_ | refine sw_l (fun _ => rfl) trivial ?_ | refine sw_ln (fun _ => rfl) ⟨rfl, leB rfl⟩ ?_ | refine sw_vg rfl (fun _ => rfl) trivial ?_ | refine sw_sk rfl rfl ?_
    refine sw_call rfl fq2 ?_
    refine sw_call rfl fs ?_
    repeat first | refine swV (fun _ => rfl) ?_ | refine sw_l (fun _ => rfl) trivial ?_ | refine sw_ln (fun _ => rfl) ⟨rfl, leB rfl⟩ ?_ | refine sw_vg rfl (fun _ => rfl) trivial ?_ | refine sw_sk rfl rfl ?_
    refine SW.nil (awp_ret ?_)
    refine ⟨.inr rfl, _, rfl, ?_, rfl⟩
    rw [← sgn_mul n1 h0', ← sgn_mul n2 h0] at h ⊢
    rw [cmpZ_sgn h]; rfl
  · refine awp_seq_rw hmix ?_
    refine rw_v' (fun _ => rfl) trivial ?_
    refine rw_v' (ld_agg [_, _] rfl rfl rfl (leB rfl)) trivial ?_
    refine rw_v' (ld_agg [_, _, _] rfl rfl rfl (leB rfl)) trivial ?_
    refine rw_call' rfl fl2 ?_
    refine rw_call' rfl fp1 ?_
    refine rw_v' (fun _ => rfl) trivial ?_
    refine rw_v' (ld_agg [_, _] rfl rfl rfl (leB rfl)) trivial ?_
    refine rw_v' (ld_agg [_, _, _] rfl rfl rfl (leB rfl)) trivial ?_
    refine rw_call' rfl fl1 ?_
    refine rw_call' rfl fp2 ?_
    refine rw_call' rfl fc ?_
    repeat first | refine rw_v' (fun _ => rfl) trivial ?_ | refine rw_l' (fun _ => rfl) trivial ?_ | refine rw_ln' (fun _ => rfl) ⟨rfl, leB rfl⟩ ?_ | refine rw_vg' rfl (fun _ => rfl) trivial ?_ | refine rw_sk' rfl rfl ?_
    refine RW.nil ⟨rfl, awp_ret ?_⟩
    exact ⟨.inr rfl, _, rfl, rfl, rfl⟩
end Iso

/- The compiled code of functions. -/
namespace Iso
open Go Go.Proofs
def ac175 : AC := (.seq 
  (.reg false [] [⟨(some 2), none, (.mv (.k (.lit (.int .i64 0))))⟩]) (.seq 
  (.reg false [] [⟨(some 3), none, (.mv (.t 0))⟩,
    ⟨(some 4), none, (.call 146 [(.t 3)])⟩,
    ⟨(some 5), none, (.bin .sub (.k (.lit (.int .i64 64))) (.t 4))⟩,
    ⟨(some 2), none, (.mv (.t 5))⟩]) .ret))
theorem cf175 : compF Tryz.prog 175 = some ⟨6, ac175, [(.tmp 2)]⟩ := by kernel_rfl
def ac151 : AC := (.seq 
  (.reg false [] [⟨(some 4), none, (.mv (.k (.lit (.slice none 0 0))))⟩]) (.seq 
  (.reg false [] [⟨(some 9), none, (.mv (.t 1))⟩,
    ⟨(some 10), none, (.mnx true [(.t 9), (.k (.lit (.int .i64 0)))])⟩,
    ⟨(some 11), none, (.mnx false [(.t 10), (.k (.lit (.int .i64 8192)))])⟩,
    ⟨(some 1), none, (.mv (.t 11))⟩]) (.seq 
  (.reg false [] [⟨(some 12), none, (.mv (.t 0))⟩,
    ⟨(some 13), none, (.call 106 [(.t 12)])⟩,
    ⟨(some 0), none, (.mv (.t 13))⟩]) (.seq (.seq 
  (.reg false [] [⟨(some 14), none, (.mv (.t 0))⟩,
    ⟨(some 15), none, (.len (.t 14))⟩,
    ⟨(some 16), none, (.bin .eql (.t 15) (.k (.lit (.int .i64 0))))⟩]) (.cond (.t 16) (.seq 
  (.reg false [] [⟨(some 4), none, (.mv (.k (.lit (.slice none 0 0))))⟩]) .ret) .skip)) (.seq 
  (.reg false [] [⟨(some 17), none, (.mv (.t 1))⟩,
    ⟨(some 18), none, (.bin .quo (.t 17) (.k (.lit (.int .i64 64))))⟩,
    ⟨(some 19), none, (.mv (.t 0))⟩,
    ⟨(some 20), none, (.len (.t 19))⟩,
    ⟨(some 21), none, (.bin .add (.t 18) (.t 20))⟩,
    ⟨(some 22), none, (.bin .add (.t 21) (.k (.lit (.int .i64 1))))⟩,
    ⟨(some 23), none, (.mks 1 8 [(.lit (.int .u64 0))] (.t 22) (.t 22))⟩,
    ⟨(some 5), none, (.mv (.t 23))⟩]) (.seq 
  (.reg false [] [⟨(some 24), none, (.mv (.t 1))⟩,
    ⟨(some 25), none, (.bin .rem (.t 24) (.k (.lit (.int .i64 64))))⟩,
    ⟨(some 26), none, (.cv .u64 (.t 25))⟩,
    ⟨(some 6), none, (.mv (.t 26))⟩]) (.seq (.seq 
  (.reg false [] [⟨(some 27), none, (.mv (.t 0))⟩,
    ⟨(some 28), none, (.len (.t 27))⟩,
    ⟨(some 29), none, (.mv (.k (.lit (.int .i64 0))))⟩]) (.block 0 (.loop (.seq 
  (.reg false [] [⟨(some 30), none, (.bin .lss (.t 29) (.t 28))⟩]) (.seq (.cond (.t 30) .skip (.exit 0)) (.seq (.block 1 (.seq 
  (.reg false [] [⟨(some 31), none, (.mv (.t 29))⟩,
    ⟨(some 32), none, (.iad 1 (.t 27) (.t 29))⟩,
    ⟨(some 33), none, (.ld false 1 (.t 32))⟩,
    ⟨(some 7), none, (.mv (.t 31))⟩,
    ⟨(some 8), none, (.mv (.t 33))⟩]) (.seq 
  (.reg false [] [⟨(some 34), none, (.mv (.t 5))⟩,
    ⟨(some 35), none, (.mv (.t 1))⟩,
    ⟨(some 36), none, (.bin .quo (.t 35) (.k (.lit (.int .i64 64))))⟩,
    ⟨(some 37), none, (.mv (.t 7))⟩,
    ⟨(some 38), none, (.bin .add (.t 36) (.t 37))⟩,
    ⟨(some 39), none, (.iad 1 (.t 34) (.t 38))⟩,
    ⟨(some 40), none, (.ld false 1 (.t 39))⟩,
    ⟨(some 41), none, (.mv (.t 8))⟩,
    ⟨(some 42), none, (.mv (.t 6))⟩,
    ⟨(some 43), none, (.bin .shl (.t 41) (.t 42))⟩,
    ⟨(some 44), none, (.bin .or (.t 40) (.t 43))⟩,
    ⟨(some 45), none, (.iad 1 (.t 34) (.t 38))⟩,
    ⟨none, none, (.st 1 (.t 45) (.t 44))⟩]) (.seq 
  (.reg false [] [⟨(some 46), none, (.mv (.t 6))⟩,
    ⟨(some 47), none, (.bin .gtr (.t 46) (.k (.lit (.int .u64 0))))⟩]) (.cond (.t 47) 
  (.reg false [] [⟨(some 48), none, (.mv (.t 5))⟩,
    ⟨(some 49), none, (.mv (.t 1))⟩,
    ⟨(some 50), none, (.bin .quo (.t 49) (.k (.lit (.int .i64 64))))⟩,
    ⟨(some 51), none, (.mv (.t 7))⟩,
    ⟨(some 52), none, (.bin .add (.t 50) (.t 51))⟩,
    ⟨(some 53), none, (.bin .add (.t 52) (.k (.lit (.int .i64 1))))⟩,
    ⟨(some 54), none, (.mv (.t 8))⟩,
    ⟨(some 55), none, (.mv (.t 6))⟩,
    ⟨(some 56), none, (.bin .sub (.k (.lit (.int .u64 64))) (.t 55))⟩,
    ⟨(some 57), none, (.bin .shr (.t 54) (.t 56))⟩,
    ⟨(some 58), none, (.iad 1 (.t 48) (.t 53))⟩,
    ⟨none, none, (.st 1 (.t 58) (.t 57))⟩]) .skip))))) 
  (.reg false [] [⟨(some 59), none, (.bin .add (.t 29) (.k (.lit (.int .i64 1))))⟩,
    ⟨(some 29), none, (.mv (.t 59))⟩]))))))) (.seq 
  (.reg false [] [⟨(some 60), none, (.mv (.t 5))⟩,
    ⟨(some 61), none, (.call 106 [(.t 60)])⟩,
    ⟨(some 4), none, (.mv (.t 61))⟩]) .ret))))))))
theorem cf151 : compF Tryz.prog 151 = some ⟨62, ac151, [(.tmp 4)]⟩ := by kernel_rfl
def ac152 : AC := (.seq 
  (.reg false [] [⟨(some 4), none, (.mv (.k (.lit (.int .u64 0))))⟩]) (.seq 
  (.reg false [] [⟨(some 11), none, (.mv (.t 1))⟩,
    ⟨(some 12), none, (.len (.t 11))⟩,
    ⟨(some 5), none, (.mv (.t 12))⟩]) (.seq 
  (.reg true [[], [], [1], [0, 2], [3], [], [4, 5, 0, 1, 2, 3, 4, 5], [6, 0, 1, 2, 3, 4, 5, 6]] [⟨(some 13), none, (.mv (.t 0))⟩,
    ⟨(some 14), none, (.mv (.t 5))⟩,
    ⟨(some 15), none, (.bin .sub (.t 14) (.k (.lit (.int .i64 1))))⟩,
    ⟨(some 16), none, (.iad 1 (.t 13) (.t 15))⟩,
    ⟨(some 17), none, (.ld false 1 (.t 16))⟩,
    ⟨(some 6), none, (.mv (.k (.lit (.int .u64 18446744073709551615))))⟩,
    ⟨(some 7), none, (.mv (.t 17))⟩,
    ⟨(some 8), none, (.mv (.k (.lit (.int .u64 0))))⟩]) (.seq (.seq 
  (.reg true [[], [], [0, 1], [2], [], [], [5], [4, 6], [7], [3, 8]] [⟨(some 18), none, (.mv (.t 0))⟩,
    ⟨(some 19), none, (.mv (.t 5))⟩,
    ⟨(some 20), none, (.iad 1 (.t 18) (.t 19))⟩,
    ⟨(some 21), none, (.ld false 1 (.t 20))⟩,
    ⟨(some 22), none, (.mv (.t 1))⟩,
    ⟨(some 23), none, (.mv (.t 5))⟩,
    ⟨(some 24), none, (.bin .sub (.t 23) (.k (.lit (.int .i64 1))))⟩,
    ⟨(some 25), none, (.iad 1 (.t 22) (.t 24))⟩,
    ⟨(some 26), none, (.ld false 1 (.t 25))⟩,
    ⟨(some 27), none, (.bin .lss (.t 21) (.t 26))⟩]) (.cond (.t 27) 
  (.reg true [[], [], [0, 1], [2], [], [], [5], [4, 6], [7], [], [], [10], [9, 11], [12], [3, 8, 13], [14], [15], [15], [16, 14, 0, 1, 2, 3, 4, 5, 6, 7, 8, 9, 10, 11, 12, 13, 14, 15, 16], [17, 18, 0, 1, 2, 3, 4, 5, 6, 7, 8, 9, 10, 11, 12, 13, 14, 15, 16, 17, 18]] [⟨(some 29), none, (.mv (.t 0))⟩,
    ⟨(some 30), none, (.mv (.t 5))⟩,
    ⟨(some 31), none, (.iad 1 (.t 29) (.t 30))⟩,
    ⟨(some 32), none, (.ld false 1 (.t 31))⟩,
    ⟨(some 33), none, (.mv (.t 0))⟩,
    ⟨(some 34), none, (.mv (.t 5))⟩,
    ⟨(some 35), none, (.bin .sub (.t 34) (.k (.lit (.int .i64 1))))⟩,
    ⟨(some 36), none, (.iad 1 (.t 33) (.t 35))⟩,
    ⟨(some 37), none, (.ld false 1 (.t 36))⟩,
    ⟨(some 38), none, (.mv (.t 1))⟩,
    ⟨(some 39), none, (.mv (.t 5))⟩,
    ⟨(some 40), none, (.bin .sub (.t 39) (.k (.lit (.int .i64 1))))⟩,
    ⟨(some 41), none, (.iad 1 (.t 38) (.t 40))⟩,
    ⟨(some 42), none, (.ld false 1 (.t 41))⟩,
    ⟨(some 43), none, (.call 171 [(.t 32), (.t 37), (.t 42)])⟩,
    ⟨(some 28), none, (.mv (.t 43))⟩,
    ⟨(some 44), none, (.ext (.t 28) 0)⟩,
    ⟨(some 45), none, (.ext (.t 28) 1)⟩,
    ⟨(some 6), none, (.mv (.t 44))⟩,
    ⟨(some 7), none, (.mv (.t 45))⟩]) 
  (.reg false [] [⟨(some 47), none, (.mv (.t 7))⟩,
    ⟨(some 48), none, (.mv (.t 1))⟩,
    ⟨(some 49), none, (.mv (.t 5))⟩,
    ⟨(some 50), none, (.bin .sub (.t 49) (.k (.lit (.int .i64 1))))⟩,
    ⟨(some 51), none, (.iad 1 (.t 48) (.t 50))⟩,
    ⟨(some 52), none, (.ld false 1 (.t 51))⟩,
    ⟨(some 53), none, (.adc (.t 47) (.t 52) (.k (.lit (.int .u64 0))))⟩,
    ⟨(some 46), none, (.mv (.t 53))⟩,
    ⟨(some 54), none, (.ext (.t 46) 0)⟩,
    ⟨(some 55), none, (.ext (.t 46) 1)⟩,
    ⟨(some 7), none, (.mv (.t 54))⟩,
    ⟨(some 8), none, (.mv (.t 55))⟩]))) (.seq (.block 0 (.loop (.seq (.seq 
  (.reg false [] [⟨(some 56), none, (.mv (.t 8))⟩,
    ⟨(some 57), none, (.bin .eql (.t 56) (.k (.lit (.int .u64 0))))⟩]) (.cond (.t 57) .skip (.exit 0))) (.block 1 (.seq 
  (.reg false [] [⟨(some 59), none, (.mv (.t 6))⟩,
    ⟨(some 60), none, (.mv (.t 1))⟩,
    ⟨(some 61), none, (.mv (.t 5))⟩,
    ⟨(some 62), none, (.bin .sub (.t 61) (.k (.lit (.int .i64 2))))⟩,
    ⟨(some 63), none, (.iad 1 (.t 60) (.t 62))⟩,
    ⟨(some 64), none, (.ld false 1 (.t 63))⟩,
    ⟨(some 65), none, (.call 104 [(.t 59), (.t 64)])⟩,
    ⟨(some 58), none, (.mv (.t 65))⟩,
    ⟨(some 66), none, (.ext (.t 58) 0)⟩,
    ⟨(some 67), none, (.ext (.t 58) 1)⟩,
    ⟨(some 9), none, (.mv (.t 66))⟩,
    ⟨(some 10), none, (.mv (.t 67))⟩]) (.seq (.seq 
  (.reg false [] [⟨(some 68), none, (.mv (.t 9))⟩,
    ⟨(some 69), none, (.mv (.t 7))⟩,
    ⟨(some 70), none, (.bin .lss (.t 68) (.t 69))⟩,
    ⟨(some 71), none, (.mv (.t 70))⟩,
    ⟨(some 72), (some (71, false)), (.mv (.t 9))⟩,
    ⟨(some 73), (some (71, false)), (.mv (.t 7))⟩,
    ⟨(some 74), (some (71, false)), (.bin .eql (.t 72) (.t 73))⟩,
    ⟨(some 75), (some (71, false)), (.mv (.t 74))⟩,
    ⟨(some 76), (some (75, true)), (.mv (.t 10))⟩,
    ⟨(some 77), (some (75, true)), (.mv (.t 0))⟩,
    ⟨(some 78), (some (75, true)), (.mv (.t 5))⟩,
    ⟨(some 79), (some (75, true)), (.bin .sub (.t 78) (.k (.lit (.int .i64 2))))⟩,
    ⟨(some 80), (some (75, true)), (.iad 1 (.t 77) (.t 79))⟩,
    ⟨(some 81), (some (75, true)), (.ld false 1 (.t 80))⟩,
    ⟨(some 82), (some (75, true)), (.bin .leq (.t 76) (.t 81))⟩,
    ⟨(some 83), (some (71, false)), (.pick (.t 75) (.t 82) (.k (.lit (.bool false))))⟩,
    ⟨(some 84), none, (.pick (.t 71) (.k (.lit (.bool true))) (.t 83))⟩]) (.cond (.t 84) (.exit 0) .skip)) (.seq 
  (.reg false [] [⟨(some 85), none, (.mv (.t 6))⟩,
    ⟨(some 86), none, (.bin .sub (.t 85) (.k (.lit (.int .u64 1))))⟩,
    ⟨(some 6), none, (.mv (.t 86))⟩]) 
  (.reg false [] [⟨(some 88), none, (.mv (.t 7))⟩,
    ⟨(some 89), none, (.mv (.t 1))⟩,
    ⟨(some 90), none, (.mv (.t 5))⟩,
    ⟨(some 91), none, (.bin .sub (.t 90) (.k (.lit (.int .i64 1))))⟩,
    ⟨(some 92), none, (.iad 1 (.t 89) (.t 91))⟩,
    ⟨(some 93), none, (.ld false 1 (.t 92))⟩,
    ⟨(some 94), none, (.adc (.t 88) (.t 93) (.k (.lit (.int .u64 0))))⟩,
    ⟨(some 87), none, (.mv (.t 94))⟩,
    ⟨(some 95), none, (.ext (.t 87) 0)⟩,
    ⟨(some 96), none, (.ext (.t 87) 1)⟩,
    ⟨(some 7), none, (.mv (.t 95))⟩,
    ⟨(some 8), none, (.mv (.t 96))⟩])))))))) (.seq 
  (.reg false [] [⟨(some 97), none, (.mv (.t 6))⟩,
    ⟨(some 4), none, (.mv (.t 97))⟩]) .ret))))))
theorem cf152 : compF Tryz.prog 152 = some ⟨98, ac152, [(.tmp 4)]⟩ := by kernel_rfl
def ac153 : AC := (.seq 
  (.reg false [] [⟨(some 6), none, (.mv (.k (.lit (.bool false))))⟩]) (.seq 
  (.reg false [] [⟨(some 7), none, (.mv (.k (.lit (.int .u64 0))))⟩,
    ⟨(some 8), none, (.mv (.k (.lit (.int .u64 0))))⟩]) (.seq (.seq 
  (.reg false [] [⟨(some 15), none, (.mv (.t 1))⟩,
    ⟨(some 16), none, (.len (.t 15))⟩,
    ⟨(some 17), none, (.mv (.k (.lit (.int .i64 0))))⟩]) (.block 0 (.loop (.seq 
  (.reg false [] [⟨(some 18), none, (.bin .lss (.t 17) (.t 16))⟩]) (.seq (.cond (.t 18) .skip (.exit 0)) (.seq (.block 1 (.seq 
  (.reg false [] [⟨(some 19), none, (.mv (.t 17))⟩,
    ⟨(some 20), none, (.iad 1 (.t 15) (.t 17))⟩,
    ⟨(some 21), none, (.ld false 1 (.t 20))⟩,
    ⟨(some 9), none, (.mv (.t 19))⟩,
    ⟨(some 10), none, (.mv (.t 21))⟩]) (.seq 
  (.reg false [] [⟨(some 23), none, (.mv (.t 2))⟩,
    ⟨(some 24), none, (.mv (.t 10))⟩,
    ⟨(some 25), none, (.call 104 [(.t 23), (.t 24)])⟩,
    ⟨(some 22), none, (.mv (.t 25))⟩,
    ⟨(some 26), none, (.ext (.t 22) 0)⟩,
    ⟨(some 27), none, (.ext (.t 22) 1)⟩,
    ⟨(some 11), none, (.mv (.t 26))⟩,
    ⟨(some 12), none, (.mv (.t 27))⟩]) (.seq 
  (.reg false [] [⟨(some 13), none, (.mv (.k (.lit (.int .u64 0))))⟩]) (.seq 
  (.reg false [] [⟨(some 29), none, (.mv (.t 12))⟩,
    ⟨(some 30), none, (.mv (.t 7))⟩,
    ⟨(some 31), none, (.adc (.t 29) (.t 30) (.k (.lit (.int .u64 0))))⟩,
    ⟨(some 28), none, (.mv (.t 31))⟩,
    ⟨(some 32), none, (.ext (.t 28) 0)⟩,
    ⟨(some 33), none, (.ext (.t 28) 1)⟩,
    ⟨(some 12), none, (.mv (.t 32))⟩,
    ⟨(some 13), none, (.mv (.t 33))⟩]) (.seq 
  (.reg false [] [⟨(some 34), none, (.mv (.t 11))⟩,
    ⟨(some 35), none, (.mv (.t 13))⟩,
    ⟨(some 36), none, (.bin .add (.t 34) (.t 35))⟩,
    ⟨(some 7), none, (.mv (.t 36))⟩]) 
  (.reg false [] [⟨(some 38), none, (.mv (.t 0))⟩,
    ⟨(some 39), none, (.mv (.t 9))⟩,
    ⟨(some 40), none, (.mv (.t 0))⟩,
    ⟨(some 41), none, (.mv (.t 9))⟩,
    ⟨(some 42), none, (.iad 1 (.t 40) (.t 41))⟩,
    ⟨(some 43), none, (.ld false 1 (.t 42))⟩,
    ⟨(some 44), none, (.mv (.t 12))⟩,
    ⟨(some 45), none, (.mv (.t 8))⟩,
    ⟨(some 46), none, (.sbb (.t 43) (.t 44) (.t 45))⟩,
    ⟨(some 37), none, (.mv (.t 46))⟩,
    ⟨(some 47), none, (.ext (.t 37) 0)⟩,
    ⟨(some 48), none, (.ext (.t 37) 1)⟩,
    ⟨(some 49), none, (.iad 1 (.t 38) (.t 39))⟩,
    ⟨none, none, (.st 1 (.t 49) (.t 47))⟩,
    ⟨(some 8), none, (.mv (.t 48))⟩]))))))) 
  (.reg false [] [⟨(some 50), none, (.bin .add (.t 17) (.k (.lit (.int .i64 1))))⟩,
    ⟨(some 17), none, (.mv (.t 50))⟩]))))))) (.seq 
  (.reg false [] [⟨(some 51), none, (.mv (.t 1))⟩,
    ⟨(some 52), none, (.len (.t 51))⟩,
    ⟨(some 14), none, (.mv (.t 52))⟩]) (.seq 
  (.reg false [] [⟨(some 54), none, (.mv (.t 0))⟩,
    ⟨(some 55), none, (.mv (.t 14))⟩,
    ⟨(some 56), none, (.mv (.t 0))⟩,
    ⟨(some 57), none, (.mv (.t 14))⟩,
    ⟨(some 58), none, (.iad 1 (.t 56) (.t 57))⟩,
    ⟨(some 59), none, (.ld false 1 (.t 58))⟩,
    ⟨(some 60), none, (.mv (.t 7))⟩,
    ⟨(some 61), none, (.mv (.t 8))⟩,
    ⟨(some 62), none, (.sbb (.t 59) (.t 60) (.t 61))⟩,
    ⟨(some 53), none, (.mv (.t 62))⟩,
    ⟨(some 63), none, (.ext (.t 53) 0)⟩,
    ⟨(some 64), none, (.ext (.t 53) 1)⟩,
    ⟨(some 65), none, (.iad 1 (.t 54) (.t 55))⟩,
    ⟨none, none, (.st 1 (.t 65) (.t 63))⟩,
    ⟨(some 8), none, (.mv (.t 64))⟩]) (.seq 
  (.reg false [] [⟨(some 66), none, (.mv (.t 8))⟩,
    ⟨(some 67), none, (.bin .gtr (.t 66) (.k (.lit (.int .u64 0))))⟩,
    ⟨(some 6), none, (.mv (.t 67))⟩]) .ret))))))
theorem cf153 : compF Tryz.prog 153 = some ⟨68, ac153, [(.tmp 6)]⟩ := by kernel_rfl
def ac154 : AC := (.seq 
  (.reg false [] [⟨(some 4), none, (.mv (.k (.lit (.int .u64 0))))⟩]) (.seq (.seq 
  (.reg false [] [⟨(some 7), none, (.mv (.t 1))⟩,
    ⟨(some 8), none, (.len (.t 7))⟩,
    ⟨(some 9), none, (.mv (.k (.lit (.int .i64 0))))⟩]) (.block 0 (.loop (.seq 
  (.reg false [] [⟨(some 10), none, (.bin .lss (.t 9) (.t 8))⟩]) (.seq (.cond (.t 10) .skip (.exit 0)) (.seq (.block 1 (.seq 
  (.reg false [] [⟨(some 11), none, (.mv (.t 9))⟩,
    ⟨(some 12), none, (.iad 1 (.t 7) (.t 9))⟩,
    ⟨(some 13), none, (.ld false 1 (.t 12))⟩,
    ⟨(some 5), none, (.mv (.t 11))⟩,
    ⟨(some 6), none, (.mv (.t 13))⟩]) 
  (.reg false [] [⟨(some 15), none, (.mv (.t 0))⟩,
    ⟨(some 16), none, (.mv (.t 5))⟩,
    ⟨(some 17), none, (.mv (.t 0))⟩,
    ⟨(some 18), none, (.mv (.t 5))⟩,
    ⟨(some 19), none, (.iad 1 (.t 17) (.t 18))⟩,
    ⟨(some 20), none, (.ld false 1 (.t 19))⟩,
    ⟨(some 21), none, (.mv (.t 6))⟩,
    ⟨(some 22), none, (.mv (.t 4))⟩,
    ⟨(some 23), none, (.adc (.t 20) (.t 21) (.t 22))⟩,
    ⟨(some 14), none, (.mv (.t 23))⟩,
    ⟨(some 24), none, (.ext (.t 14) 0)⟩,
    ⟨(some 25), none, (.ext (.t 14) 1)⟩,
    ⟨(some 26), none, (.iad 1 (.t 15) (.t 16))⟩,
    ⟨none, none, (.st 1 (.t 26) (.t 24))⟩,
    ⟨(some 4), none, (.mv (.t 25))⟩]))) 
  (.reg false [] [⟨(some 27), none, (.bin .add (.t 9) (.k (.lit (.int .i64 1))))⟩,
    ⟨(some 9), none, (.mv (.t 27))⟩]))))))) 
  (.reg false [] [⟨(some 28), none, (.mv (.t 0))⟩,
    ⟨(some 29), none, (.mv (.t 1))⟩,
    ⟨(some 30), none, (.len (.t 29))⟩,
    ⟨(some 31), none, (.iad 1 (.t 28) (.t 30))⟩,
    ⟨(some 32), none, (.ld false 1 (.t 31))⟩,
    ⟨(some 33), none, (.mv (.t 4))⟩,
    ⟨(some 34), none, (.bin .add (.t 32) (.t 33))⟩,
    ⟨(some 35), none, (.iad 1 (.t 28) (.t 30))⟩,
    ⟨none, none, (.st 1 (.t 35) (.t 34))⟩])))
theorem cf154 : compF Tryz.prog 154 = some ⟨36, ac154, []⟩ := by kernel_rfl
def ac155 : AC := (.seq 
  (.reg false [] [⟨(some 4), none, (.mv (.k (.lit (.slice none 0 0))))⟩]) (.seq 
  (.reg false [] [⟨(some 9), none, (.mv (.t 1))⟩,
    ⟨(some 10), none, (.mnx true [(.t 9), (.k (.lit (.int .i64 0)))])⟩,
    ⟨(some 11), none, (.mnx false [(.t 10), (.k (.lit (.int .i64 8192)))])⟩,
    ⟨(some 1), none, (.mv (.t 11))⟩]) (.seq 
  (.reg false [] [⟨(some 12), none, (.mv (.t 0))⟩,
    ⟨(some 13), none, (.call 106 [(.t 12)])⟩,
    ⟨(some 0), none, (.mv (.t 13))⟩]) (.seq (.seq 
  (.reg false [] [⟨(some 14), none, (.mv (.t 1))⟩,
    ⟨(some 15), none, (.bin .quo (.t 14) (.k (.lit (.int .i64 64))))⟩,
    ⟨(some 16), none, (.mv (.t 0))⟩,
    ⟨(some 17), none, (.len (.t 16))⟩,
    ⟨(some 18), none, (.bin .geq (.t 15) (.t 17))⟩]) (.cond (.t 18) (.seq 
  (.reg false [] [⟨(some 4), none, (.mv (.k (.lit (.slice none 0 0))))⟩]) .ret) .skip)) (.seq 
  (.reg false [] [⟨(some 19), none, (.mv (.t 0))⟩,
    ⟨(some 20), none, (.mv (.t 1))⟩,
    ⟨(some 21), none, (.bin .quo (.t 20) (.k (.lit (.int .i64 64))))⟩,
    ⟨(some 22), none, (.sls 1 (.t 19) (some (.t 21)) none)⟩,
    ⟨(some 0), none, (.mv (.t 22))⟩]) (.seq 
  (.reg false [] [⟨(some 23), none, (.mv (.t 1))⟩,
    ⟨(some 24), none, (.bin .rem (.t 23) (.k (.lit (.int .i64 64))))⟩,
    ⟨(some 25), none, (.cv .u64 (.t 24))⟩,
    ⟨(some 5), none, (.mv (.t 25))⟩]) (.seq 
  (.reg false [] [⟨(some 26), none, (.mv (.t 0))⟩,
    ⟨(some 27), none, (.len (.t 26))⟩,
    ⟨(some 28), none, (.mks 1 8 [(.lit (.int .u64 0))] (.t 27) (.t 27))⟩,
    ⟨(some 6), none, (.mv (.t 28))⟩]) (.seq (.seq 
  (.reg false [] [⟨(some 29), none, (.mv (.t 0))⟩,
    ⟨(some 30), none, (.len (.t 29))⟩,
    ⟨(some 31), none, (.mv (.k (.lit (.int .i64 0))))⟩]) (.block 0 (.loop (.seq 
  (.reg false [] [⟨(some 32), none, (.bin .lss (.t 31) (.t 30))⟩]) (.seq (.cond (.t 32) .skip (.exit 0)) (.seq (.block 1 (.seq 
  (.reg false [] [⟨(some 33), none, (.mv (.t 31))⟩,
    ⟨(some 34), none, (.iad 1 (.t 29) (.t 31))⟩,
    ⟨(some 35), none, (.ld false 1 (.t 34))⟩,
    ⟨(some 7), none, (.mv (.t 33))⟩,
    ⟨(some 8), none, (.mv (.t 35))⟩]) (.seq 
  (.reg false [] [⟨(some 36), none, (.mv (.t 6))⟩,
    ⟨(some 37), none, (.mv (.t 7))⟩,
    ⟨(some 38), none, (.mv (.t 8))⟩,
    ⟨(some 39), none, (.mv (.t 5))⟩,
    ⟨(some 40), none, (.bin .shr (.t 38) (.t 39))⟩,
    ⟨(some 41), none, (.iad 1 (.t 36) (.t 37))⟩,
    ⟨none, none, (.st 1 (.t 41) (.t 40))⟩]) (.seq 
  (.reg false [] [⟨(some 42), none, (.mv (.t 5))⟩,
    ⟨(some 43), none, (.bin .gtr (.t 42) (.k (.lit (.int .u64 0))))⟩,
    ⟨(some 44), none, (.mv (.t 43))⟩,
    ⟨(some 45), (some (44, true)), (.mv (.t 7))⟩,
    ⟨(some 46), (some (44, true)), (.bin .add (.t 45) (.k (.lit (.int .i64 1))))⟩,
    ⟨(some 47), (some (44, true)), (.mv (.t 0))⟩,
    ⟨(some 48), (some (44, true)), (.len (.t 47))⟩,
    ⟨(some 49), (some (44, true)), (.bin .lss (.t 46) (.t 48))⟩,
    ⟨(some 50), none, (.pick (.t 44) (.t 49) (.k (.lit (.bool false))))⟩]) (.cond (.t 50) 
  (.reg true [[], [], [0, 1], [2], [], [], [5], [4, 6], [7], [], [9], [8, 10], [3, 11], [0, 1, 0, 1, 2, 3, 4, 5, 6, 7, 8, 9, 10, 11, 12], [13, 12, 0, 1, 2, 3, 4, 5, 6, 7, 8, 9, 10, 11, 12]] [⟨(some 51), none, (.mv (.t 6))⟩,
    ⟨(some 52), none, (.mv (.t 7))⟩,
    ⟨(some 53), none, (.iad 1 (.t 51) (.t 52))⟩,
    ⟨(some 54), none, (.ld false 1 (.t 53))⟩,
    ⟨(some 55), none, (.mv (.t 0))⟩,
    ⟨(some 56), none, (.mv (.t 7))⟩,
    ⟨(some 57), none, (.bin .add (.t 56) (.k (.lit (.int .i64 1))))⟩,
    ⟨(some 58), none, (.iad 1 (.t 55) (.t 57))⟩,
    ⟨(some 59), none, (.ld false 1 (.t 58))⟩,
    ⟨(some 60), none, (.mv (.t 5))⟩,
    ⟨(some 61), none, (.bin .sub (.k (.lit (.int .u64 64))) (.t 60))⟩,
    ⟨(some 62), none, (.bin .shl (.t 59) (.t 61))⟩,
    ⟨(some 63), none, (.bin .or (.t 54) (.t 62))⟩,
    ⟨(some 64), none, (.iad 1 (.t 51) (.t 52))⟩,
    ⟨none, none, (.st 1 (.t 64) (.t 63))⟩]) .skip))))) 
  (.reg false [] [⟨(some 65), none, (.bin .add (.t 31) (.k (.lit (.int .i64 1))))⟩,
    ⟨(some 31), none, (.mv (.t 65))⟩]))))))) (.seq 
  (.reg false [] [⟨(some 66), none, (.mv (.t 6))⟩,
    ⟨(some 67), none, (.call 106 [(.t 66)])⟩,
    ⟨(some 4), none, (.mv (.t 67))⟩]) .ret)))))))))
theorem cf155 : compF Tryz.prog 155 = some ⟨68, ac155, [(.tmp 4)]⟩ := by kernel_rfl
end Iso

/- Words, with wrapping; dividing two words by one: bits.Div64. -/
namespace Iso
open Go Go.Proofs
section
variable {ev : Opd → T} {Lg : Nat → Option (List V)} {d : Option Nat} {x y : Opd} {p q : Nat}
theorem u64_addE (r : Nat) (hx : ev x = .v (.lit (.int .u64 (p : Int)))) (hy : ev y = .v (.lit (.int .u64 (q : Int)))) (e : (p + q) % B64 = r) :
    ∀ H, aopE [] d (.bin .add x y) ev Lg H = some ⟨True, .v (.lit (.int .u64 (r : Int))), {}⟩ := fun H => by
  have : IntKind.u64.wrap ((p : Int) + (q : Int)) = (r : Int) := by rw [IntKind.wrap_u64, ← e]; simp only [B64]; omega
  rw [← this]; simp only [aopE, hx, hy]; rfl
theorem u64_subE (r : Nat) (hx : ev x = .v (.lit (.int .u64 (p : Int)))) (hy : ev y = .v (.lit (.int .u64 (q : Int)))) (hq : q ≤ B64) (e : (p + B64 - q) % B64 = r) :
    ∀ H, aopE [] d (.bin .sub x y) ev Lg H = some ⟨True, .v (.lit (.int .u64 (r : Int))), {}⟩ := fun H => by
  have : IntKind.u64.wrap ((p : Int) - (q : Int)) = (r : Int) := by rw [IntKind.wrap_u64, ← e]; simp only [B64] at *; omega
  rw [← this]; simp only [aopE, hx, hy]; rfl
theorem u64_mulE (r : Nat) (hx : ev x = .v (.lit (.int .u64 (p : Int)))) (hy : ev y = .v (.lit (.int .u64 (q : Int)))) (e : p * q % B64 = r) :
    ∀ H, aopE [] d (.bin .mul x y) ev Lg H = some ⟨True, .v (.lit (.int .u64 (r : Int))), {}⟩ := e ▸ u64_mulw hx hy
theorem u64_shrE {k : IntKind} (n r : Nat) (hx : ev x = .v (.lit (.int .u64 (p : Int)))) (hy : ev y = .v (.lit (.int k (n : Int)))) (hn : n ≤ 64) (e : p / 2 ^ n = r) :
    ∀ H, aopE [] d (.bin .shr x y) ev Lg H = some ⟨0 ≤ (n : Int), .v (.lit (.int .u64 (r : Int))), {}⟩ := e ▸ u64_shr n hx hy hn
theorem u64_shlE {k : IntKind} (n r : Nat) (hx : ev x = .v (.lit (.int .u64 (p : Int)))) (hy : ev y = .v (.lit (.int k (n : Int)))) (hn : n ≤ 64) (e : p * 2 ^ n % B64 = r) :
    ∀ H, aopE [] d (.bin .shl x y) ev Lg H = some ⟨0 ≤ (n : Int), .v (.lit (.int .u64 (r : Int))), {}⟩ := fun H => by
  have : IntKind.u64.wrap ((p : Int) * 2 ^ (min (n : Int).toNat IntKind.u64.bits)) = (r : Int) := by
    rw [Int.toNat_natCast, show min n IntKind.u64.bits = n from Nat.min_eq_left hn]
    rw [show (2 : Int) ^ n = ((2 ^ n : Nat) : Int) by simp, ← Int.natCast_mul, IntKind.wrap_u64, ← e]; rfl
  rw [← this]; simp only [aopE, hx, hy]; rfl
theorem u64_orE (r : Nat) (hx : ev x = .v (.lit (.int .u64 (p : Int)))) (hy : ev y = .v (.lit (.int .u64 (q : Int)))) (hp : p < B64) (hq : q < B64) (e : p ||| q = r) :
    ∀ H, aopE [] d (.bin .or x y) ev Lg H = some ⟨True, .v (.lit (.int .u64 (r : Int))), {}⟩ := fun H => by
  have hr : r < 2 ^ 64 := by rw [← e]; exact Nat.or_lt_two_pow hp hq
  have : IntKind.u64.wrap ((BitVec.ofInt IntKind.u64.bits (p : Int) ||| BitVec.ofInt IntKind.u64.bits (q : Int)).toNat : Int) = (r : Int) := by
    have h1 : (BitVec.ofInt 64 (p : Int)).toNat = p := by
      rw [BitVec.ofInt_natCast, BitVec.toNat_ofNat]; exact Nat.mod_eq_of_lt hp
    have h2 : (BitVec.ofInt 64 (q : Int)).toNat = q := by
      rw [BitVec.ofInt_natCast, BitVec.toNat_ofNat]; exact Nat.mod_eq_of_lt hq
    show IntKind.u64.wrap ((BitVec.ofInt 64 (p : Int) ||| BitVec.ofInt 64 (q : Int)).toNat : Int) = _
    rw [BitVec.toNat_or, h1, h2, e, wrap_u64 (by omega) (by omega)]
  rw [← this]; simp only [aopE, hx, hy]; rfl
theorem cv_u64 {k : IntKind} (hx : ev x = .v (.lit (.int k (p : Int)))) (hp : p < B64) :
    ∀ H, aopE [] d (.cv .u64 x) ev Lg H = some ⟨True, .v (.lit (.int .u64 (p : Int))), {}⟩ := fun H => by
  have : IntKind.u64.wrap (p : Int) = (p : Int) := by simp only [B64] at hp; rw [wrap_u64 (by omega) (by omega)]
  simp only [aopE, hx, this]
end
/-- 'bits.LeadingZeros64'. -/
theorem fn_lz (x : Nat) (hx : x < B64) (h0 : 0 < x) (H : AH) : ∃ s : Nat, s ≤ 63 ∧ 2 ^ 63 ≤ x * 2 ^ s ∧ x * 2 ^ s < B64 ∧ FN Tryz.prog 175 [.lit (.int .u64 (x : Int))] H (.lit (.int .i64 (s : Int))) H := by
  obtain ⟨m, hm, hm64, fm⟩ := fn_len64 x hx H
  have m0 : m ≠ 0 := fun h => by have := hm.zero.1 h; omega
  have key : 2 ^ 63 ≤ x * 2 ^ (64 - m) ∧ x * 2 ^ (64 - m) < B64 := by
    obtain ⟨h1, h2⟩ := hm
    have h2 := h2.resolve_left m0
    constructor
    · have := Nat.mul_le_mul_right (2 ^ (64 - m)) h2
      rw [← Nat.pow_add] at this
      rw [show m - 1 + (64 - m) = 63 by omega] at this
      exact this
    · have := Nat.mul_lt_mul_of_pos_right h1 (Nat.two_pow_pos (64 - m))
      rw [← Nat.pow_add, show m + (64 - m) = 64 by omega] at this
      exact this
  refine ⟨64 - m, by omega, key.1, key.2, ?_⟩
  suffices h : ∃ v' H', FN Tryz.prog 175 [.lit (.int .u64 (x : Int))] H v' H' ∧ (v' = .lit (.int .i64 ((64 - m : Nat) : Int)) ∧ H' = H) by
    obtain ⟨v', H', h1, rfl, rfl⟩ := h; exact h1
  refine fn_of cf175 (by simp) ?_
  show AWp _ _ _ ac175 _ _
  unfold ac175
  refine awp_seq_sw ?_
  repeat first | refine swV (fun _ => rfl) ?_ | refine sw_l (fun _ => rfl) trivial ?_ | refine sw_ln (fun _ => rfl) ⟨rfl, leB rfl⟩ ?_ | refine sw_vg rfl (fun _ => rfl) trivial ?_ | refine sw_sk rfl rfl ?_
  refine SW.nil (awp_seq_sw ?_)
  repeat first | refine swV (fun _ => rfl) ?_ | refine sw_l (fun _ => rfl) trivial ?_ | refine sw_ln (fun _ => rfl) ⟨rfl, leB rfl⟩ ?_ | refine sw_vg rfl (fun _ => rfl) trivial ?_ | refine sw_sk rfl rfl ?_
  refine sw_call rfl fm ?_
  refine sw_v (i64_sub (p := 64) rfl rfl hm64 (by decide)) trivial ?_
  repeat first | refine swV (fun _ => rfl) ?_ | refine sw_l (fun _ => rfl) trivial ?_ | refine sw_ln (fun _ => rfl) ⟨rfl, leB rfl⟩ ?_ | refine sw_vg rfl (fun _ => rfl) trivial ?_ | refine sw_sk rfl rfl ?_
  refine SW.nil (awp_ret ?_)
  exact ⟨.inr rfl, _, rfl, rfl, rfl⟩
/-! Half a word of a quotient. -/
theorem half_iff {q h r u l d : Nat} (e : q * h + r = u) (hh : 0 < h) : q ≤ (u * 4294967296 + d) / (h * 4294967296 + l) ↔ q * l ≤ 4294967296 * r + d := by
  rw [Nat.le_div_iff_mul_le (by omega), Nat.mul_add, ← Nat.mul_assoc, ← e]
  generalize q * h = a
  generalize q * l = b
  omega
theorem half_init {u h l d : Nat} (hh : 0 < h) : (u * 4294967296 + d) / (h * 4294967296 + l) ≤ (u * 4294967296 + d) / (h * 4294967296) := Nat.div_le_div_left (by omega) (by omega)
theorem half_init' {u h l d : Nat} (hh : 0 < h) (hd : d < 4294967296) : (u * 4294967296 + d) / (h * 4294967296 + l) ≤ u / h := by
  refine Nat.le_trans (half_init hh) ?_
  rw [Nat.mul_comm h, ← Nat.div_div_eq_div_mul, show (u * 4294967296 + d) / 4294967296 = u by omega]
  exact Nat.le_refl _
theorem half_top {u h l : Nat} (hh : 2147483648 ≤ h) (hl : l < 4294967296) (hu : u < h * 4294967296 + l) : u / h ≤ 4294967297 := by
  have := (Nat.div_lt_iff_lt_mul (show 0 < h by omega) (x := u) (y := 4294967298)).2 (by omega)
  omega
theorem half_lt {u d Y : Nat} (hd : d < 4294967296) (hu : u < Y) : (u * 4294967296 + d) / Y < 4294967296 := by
  rw [Nat.div_lt_iff_lt_mul (by omega)]
  have : (u + 1) * 4294967296 ≤ Y * 4294967296 := Nat.mul_le_mul_right _ hu
  omega
theorem wrap_mul {q l : Nat} (hq : q ≤ 4294967297) (hl : l < 4294967296) : q * l < B64 := by
  have := Nat.mul_le_mul hq (Nat.le_sub_one_of_lt hl)
  simp only [B64]; omega
theorem wrap_part {u d m r : Nat} (e : u * 4294967296 + d = m + r) (hr : r < B64) : ((u * 4294967296 % B64 + d) % B64 + B64 - m % B64) % B64 = r := by
  simp only [B64] at *; omega
theorem join_halves' {c u n a r : Nat} (m : u * c + n / c = a + r) : u * c * c + n = a * c + (r * c + n % c) := by
  have h := Nat.div_add_mod n c
  rw [Nat.mul_comm] at h
  rw [← Nat.add_assoc, ← Nat.add_mul, ← m, Nat.add_mul, Nat.add_assoc, h]
theorem join_halves {u n a r : Nat} (m : u * 4294967296 + n / 4294967296 = a + r) : u * 4294967296 * 4294967296 + n = a * 4294967296 + (r * 4294967296 + n % 4294967296) := join_halves' m
end Iso

/- Dividing two words by one: bits.Div64. -/
namespace Iso
open Go Go.Proofs
/-- 'bits.Div64'. -/
theorem fn_div64w (hi lo y : Nat) (hhi : hi < y) (hlo : lo < B64) (hy : y < B64) (H : AH) :
    FN Tryz.prog 171 [.lit (.int .u64 (hi : Int)), .lit (.int .u64 (lo : Int)), .lit (.int .u64 (y : Int))] H (.tup [.lit (.int .u64 (((hi * B64 + lo) / y : Nat) : Int)), .lit (.int .u64 (((hi * B64 + lo) % y : Nat) : Int))]) H := by
  by_cases hz : hi = 0
  · subst hz
    have := fn_div64 lo y hlo (by omega) H
    rw [Nat.zero_mul, Nat.zero_add]; exact this
  suffices hg : ∃ v' H', FN Tryz.prog 171 [.lit (.int .u64 (hi : Int)), .lit (.int .u64 (lo : Int)), .lit (.int .u64 (y : Int))] H v' H' ∧ (v' = (.tup [.lit (.int .u64 (((hi * B64 + lo) / y : Nat) : Int)), .lit (.int .u64 (((hi * B64 + lo) % y : Nat) : Int))]) ∧ H' = H) by
    obtain ⟨v', H', h1, rfl, rfl⟩ := hg; exact h1
  obtain ⟨s, hs, hs1, hs2, fs⟩ := fn_lz y hy (by omega) H
  have e2 : (2 : Nat) ^ s * 2 ^ (64 - s) = B64 := by rw [← Nat.pow_add, show s + (64 - s) = 64 by omega]; rfl
  have p2 : 0 < 2 ^ s := Nat.two_pow_pos s
  have p3 : 0 < 2 ^ (64 - s) := Nat.two_pow_pos _
  obtain ⟨Y, hY⟩ : ∃ Y, Y = y * 2 ^ s := ⟨_, rfl⟩
  obtain ⟨h, hhe⟩ : ∃ h, h = Y / 4294967296 := ⟨_, rfl⟩
  obtain ⟨l, hle⟩ : ∃ l, l = Y % 4294967296 := ⟨_, rfl⟩
  obtain ⟨t, ht⟩ : ∃ t, t = lo / 2 ^ (64 - s) := ⟨_, rfl⟩
  obtain ⟨u, hue⟩ : ∃ u, u = hi * 2 ^ s + t := ⟨_, rfl⟩
  obtain ⟨n0, hn0⟩ : ∃ n0, n0 = lo * 2 ^ s % B64 := ⟨_, rfl⟩
  obtain ⟨d1, hd1⟩ : ∃ d1, d1 = n0 / 4294967296 := ⟨_, rfl⟩
  obtain ⟨d0, hd0⟩ : ∃ d0, d0 = n0 % 4294967296 := ⟨_, rfl⟩
  have hn0l : n0 < B64 := by rw [hn0]; exact Nat.mod_lt _ (by decide)
  have hYe : Y = h * 4294967296 + l := by omega
  rw [← hY] at hs1 hs2
  have hl : l < 4294967296 := by omega
  have hh : 2147483648 ≤ h := by omega
  have h0 : 0 < h := by omega
  have h32 : h < 4294967296 := by simp only [B64] at hs2; omega
  have hd1l : d1 < 4294967296 := by simp only [B64] at hn0l; omega
  have hd0l : d0 < 4294967296 := by omega
  have htl : t < 2 ^ s := by
    rw [ht, Nat.div_lt_iff_lt_mul p3, e2]; exact hlo
  have huY : u < Y := by
    have := Nat.mul_le_mul_right (2 ^ s) (show hi + 1 ≤ y by omega)
    rw [Nat.add_mul] at this
    omega
  have hub : u < B64 := Nat.lt_trans huY hs2
  have hN : (hi * B64 + lo) * 2 ^ s = u * B64 + n0 := by
    have h1 : lo * 2 ^ s = t * B64 + n0 := by
      have h2 := Nat.div_add_mod (lo * 2 ^ s) B64
      have h3 : lo * 2 ^ s / B64 = t := by
        rw [ht, ← e2, ← Nat.div_div_eq_div_mul, Nat.mul_div_cancel _ p2]
      rw [h3, ← hn0, Nat.mul_comm] at h2
      exact h2.symm
    rw [hue, Nat.add_mul, Nat.add_mul, h1, Nat.mul_right_comm]
    omega
  have hor : hi * 2 ^ s ||| t = u := by
    rw [Nat.mul_comm, ← Nat.two_pow_add_eq_or_of_lt htl, Nat.mul_comm]; exact hue.symm
  have hhs : hi * 2 ^ s < B64 := by omega
  have htb : t < B64 := by omega
  obtain ⟨q1, hq1⟩ : ∃ q, q = (u * 4294967296 + d1) / Y := ⟨_, rfl⟩
  obtain ⟨r1, hr1⟩ : ∃ r, r = (u * 4294967296 + d1) % Y := ⟨_, rfl⟩
  obtain ⟨q0, hq0⟩ : ∃ q, q = (r1 * 4294967296 + d0) / Y := ⟨_, rfl⟩
  obtain ⟨r0, hr0⟩ : ∃ r, r = (r1 * 4294967296 + d0) % Y := ⟨_, rfl⟩
  have hY0 : 0 < Y := by omega
  have hr1Y : r1 < Y := by rw [hr1]; exact Nat.mod_lt _ hY0
  have hr0Y : r0 < Y := by rw [hr0]; exact Nat.mod_lt _ hY0
  have m1 : u * 4294967296 + d1 = q1 * Y + r1 := by rw [hq1, hr1]; have h := Nat.div_add_mod (u * 4294967296 + d1) Y; rw [Nat.mul_comm Y] at h; exact h.symm
  have m0 : r1 * 4294967296 + d0 = q0 * Y + r0 := by rw [hq0, hr0]; have h := Nat.div_add_mod (r1 * 4294967296 + d0) Y; rw [Nat.mul_comm Y] at h; exact h.symm
  have hq1l : q1 < 4294967296 := hq1 ▸ half_lt hd1l huY
  have hq0l : q0 < 4294967296 := hq0 ▸ half_lt hd0l hr1Y
  have hNY : u * B64 + n0 = (q1 * 4294967296 + q0) * Y + r0 := by
    have e1 : (q1 * 4294967296 + q0) * Y + r0 = q1 * Y * 4294967296 + (q0 * Y + r0) := by
      rw [Nat.add_mul, Nat.mul_right_comm, Nat.add_assoc]
    have e3 : u * B64 = u * 4294967296 * 4294967296 := by rw [Nat.mul_assoc]; rfl
    rw [e1, e3, ← m0, hd0]
    exact join_halves (hd1 ▸ m1)
  have hquo : (hi * B64 + lo) / y = q1 * 4294967296 + q0 := by
    rw [← Nat.mul_div_mul_right _ _ p2, hN, ← hY, hNY, Nat.mul_comm, Nat.mul_add_div hY0, Nat.div_eq_of_lt hr0Y, Nat.add_zero]
  have hrem : r0 / 2 ^ s = (hi * B64 + lo) % y := by
    have h1 := Nat.mul_mod_mul_right (2 ^ s) (hi * B64 + lo) y
    rw [hN, ← hY, hNY, Nat.mul_comm, Nat.mul_add_mod, Nat.mod_eq_of_lt hr0Y] at h1
    rw [h1, Nat.mul_div_cancel _ p2]
  refine fn_of cf171 (by simp) ?_
  show AWp _ _ _ ac171 _ _
  unfold ac171
  refine awp_seq_sw ?_
  repeat first | refine swV (fun _ => rfl) ?_ | refine sw_l (fun _ => rfl) trivial ?_ | refine sw_ln (fun _ => rfl) ⟨rfl, leB rfl⟩ ?_ | refine sw_vg rfl (fun _ => rfl) trivial ?_ | refine sw_sk rfl rfl ?_
  refine SW.nil (awp_seq_seq_sw ?_)
  repeat first | refine swV (fun _ => rfl) ?_ | refine sw_l (fun _ => rfl) trivial ?_ | refine sw_ln (fun _ => rfl) ⟨rfl, leB rfl⟩ ?_ | refine sw_vg rfl (fun _ => rfl) trivial ?_ | refine sw_sk rfl rfl ?_
  refine SW.nil ?_
  refine awp_cond rfl (fun h => by simp at h; omega) fun _ => awp_skip ?_
  refine awp_seq_seq_sw ?_
  repeat first | refine swV (fun _ => rfl) ?_ | refine sw_l (fun _ => rfl) trivial ?_ | refine sw_ln (fun _ => rfl) ⟨rfl, leB rfl⟩ ?_ | refine sw_vg rfl (fun _ => rfl) trivial ?_ | refine sw_sk rfl rfl ?_
  refine SW.nil ?_
  refine awp_cond rfl (fun h => by simp at h; omega) fun _ => awp_skip ?_
  refine awp_seq_seq_sw ?_
  repeat first | refine swV (fun _ => rfl) ?_ | refine sw_l (fun _ => rfl) trivial ?_ | refine sw_ln (fun _ => rfl) ⟨rfl, leB rfl⟩ ?_ | refine sw_vg rfl (fun _ => rfl) trivial ?_ | refine sw_sk rfl rfl ?_
  refine SW.nil ?_
  refine awp_cond rfl (fun h => by simp at h; omega) fun _ => awp_skip ?_
  refine awp_seq_sw ?_
  repeat first | refine swV (fun _ => rfl) ?_ | refine sw_l (fun _ => rfl) trivial ?_ | refine sw_ln (fun _ => rfl) ⟨rfl, leB rfl⟩ ?_ | refine sw_vg rfl (fun _ => rfl) trivial ?_ | refine sw_sk rfl rfl ?_
  refine sw_call rfl fs ?_
  refine sw_v (cv_u64 rfl (by simp only [B64]; omega)) trivial ?_
  repeat first | refine swV (fun _ => rfl) ?_ | refine sw_l (fun _ => rfl) trivial ?_ | refine sw_ln (fun _ => rfl) ⟨rfl, leB rfl⟩ ?_ | refine sw_vg rfl (fun _ => rfl) trivial ?_ | refine sw_sk rfl rfl ?_
  refine SW.nil (awp_seq_sw ?_)
  refine swV (fun _ => rfl) ?_
  refine swV (fun _ => rfl) ?_
  refine sw_v (u64_shlE s Y rfl rfl (by omega) (by rw [← hY]; exact Nat.mod_eq_of_lt hs2)) (by omega) ?_
  repeat first | refine swV (fun _ => rfl) ?_ | refine sw_l (fun _ => rfl) trivial ?_ | refine sw_ln (fun _ => rfl) ⟨rfl, leB rfl⟩ ?_ | refine sw_vg rfl (fun _ => rfl) trivial ?_ | refine sw_sk rfl rfl ?_
  refine SW.nil (awp_seq_sw ?_)
  refine swV (fun _ => rfl) ?_
  refine sw_v (u64_shrE 32 h rfl rfl (by decide) hhe.symm) (by decide) ?_
  repeat first | refine swV (fun _ => rfl) ?_ | refine sw_l (fun _ => rfl) trivial ?_ | refine sw_ln (fun _ => rfl) ⟨rfl, leB rfl⟩ ?_ | refine sw_vg rfl (fun _ => rfl) trivial ?_ | refine sw_sk rfl rfl ?_
  refine SW.nil (awp_seq_sw ?_)
  refine swV (fun _ => rfl) ?_
  refine sw_v (u64_low32 rfl rfl hs2) trivial ?_
  rw [← hle]
  repeat first | refine swV (fun _ => rfl) ?_ | refine sw_l (fun _ => rfl) trivial ?_ | refine sw_ln (fun _ => rfl) ⟨rfl, leB rfl⟩ ?_ | refine sw_vg rfl (fun _ => rfl) trivial ?_ | refine sw_sk rfl rfl ?_
  refine SW.nil (awp_seq_sw ?_)
  refine swV (fun _ => rfl) ?_
  refine swV (fun _ => rfl) ?_
  refine sw_v (u64_shlE s (hi * 2 ^ s) rfl rfl (by omega) (Nat.mod_eq_of_lt hhs)) (by omega) ?_
  refine swV (fun _ => rfl) ?_
  refine swV (fun _ => rfl) ?_
  refine sw_v (u64_sub (p := 64) rfl rfl (by omega) (by decide)) trivial ?_
  refine sw_v (u64_shrE (64 - s) t rfl rfl (by omega) ht.symm) (by omega) ?_
  refine sw_v (u64_orE u rfl rfl hhs htb hor) trivial ?_
  repeat first | refine swV (fun _ => rfl) ?_ | refine sw_l (fun _ => rfl) trivial ?_ | refine sw_ln (fun _ => rfl) ⟨rfl, leB rfl⟩ ?_ | refine sw_vg rfl (fun _ => rfl) trivial ?_ | refine sw_sk rfl rfl ?_
  refine SW.nil (awp_seq_sw ?_)
  refine swV (fun _ => rfl) ?_
  refine swV (fun _ => rfl) ?_
  refine sw_v (u64_shlE s n0 rfl rfl (by omega) hn0.symm) (by omega) ?_
  repeat first | refine swV (fun _ => rfl) ?_ | refine sw_l (fun _ => rfl) trivial ?_ | refine sw_ln (fun _ => rfl) ⟨rfl, leB rfl⟩ ?_ | refine sw_vg rfl (fun _ => rfl) trivial ?_ | refine sw_sk rfl rfl ?_
  refine SW.nil (awp_seq_sw ?_)
  refine swV (fun _ => rfl) ?_
  refine sw_v (u64_shrE 32 d1 rfl rfl (by decide) hd1.symm) (by decide) ?_
  repeat first | refine swV (fun _ => rfl) ?_ | refine sw_l (fun _ => rfl) trivial ?_ | refine sw_ln (fun _ => rfl) ⟨rfl, leB rfl⟩ ?_ | refine sw_vg rfl (fun _ => rfl) trivial ?_ | refine sw_sk rfl rfl ?_
  refine SW.nil (awp_seq_sw ?_)
  refine swV (fun _ => rfl) ?_
  refine sw_v (u64_low32 rfl rfl hn0l) trivial ?_
  rw [← hd0]
  repeat first | refine swV (fun _ => rfl) ?_ | refine sw_l (fun _ => rfl) trivial ?_ | refine sw_ln (fun _ => rfl) ⟨rfl, leB rfl⟩ ?_ | refine sw_vg rfl (fun _ => rfl) trivial ?_ | refine sw_sk rfl rfl ?_
  refine SW.nil (awp_seq_sw ?_)
  refine swV (fun _ => rfl) ?_
  refine swV (fun _ => rfl) ?_
  refine sw_v (u64_quo rfl rfl hub) (by omega) ?_
  repeat first | refine swV (fun _ => rfl) ?_ | refine sw_l (fun _ => rfl) trivial ?_ | refine sw_ln (fun _ => rfl) ⟨rfl, leB rfl⟩ ?_ | refine sw_vg rfl (fun _ => rfl) trivial ?_ | refine sw_sk rfl rfl ?_
  refine SW.nil (awp_seq_sw ?_)
  refine swV (fun _ => rfl) ?_
  refine swV (fun _ => rfl) ?_
  refine swV (fun _ => rfl) ?_
  refine sw_v (u64_mulE (u / h * h) rfl rfl (Nat.mod_eq_of_lt (Nat.lt_of_le_of_lt (Nat.div_mul_le_self u h) hub))) trivial ?_
  refine sw_v (u64_sub rfl rfl (Nat.div_mul_le_self u h) hub) trivial ?_
  rw [show u - u / h * h = u % h by have := Nat.div_add_mod u h; rw [Nat.mul_comm] at this; omega]
  repeat first | refine swV (fun _ => rfl) ?_ | refine sw_l (fun _ => rfl) trivial ?_ | refine sw_ln (fun _ => rfl) ⟨rfl, leB rfl⟩ ?_ | refine sw_vg rfl (fun _ => rfl) trivial ?_ | refine sw_sk rfl rfl ?_
  refine SW.nil ?_
  refine awp_seq_join (γ := Unit) (fun _ => ⟨[(2, .v (.lit (.int .u64 (Y : Int)))), (8, .v (.lit (.int .u64 (s : Int)))), (9, .v (.lit (.int .u64 (h : Int)))), (10, .v (.lit (.int .u64 (l : Int)))), (11, .v (.lit (.int .u64 (u : Int)))), (13, .v (.lit (.int .u64 (d1 : Int)))), (14, .v (.lit (.int .u64 (d0 : Int)))), (15, .v (.lit (.int .u64 (((u * 4294967296 + d1) / Y : Nat) : Int))))], [], H⟩) ?_ fun _ => ?_
  · refine awp_block ?_
    refine awp_loop (γ := { p : Nat × Nat // p.1 * h + p.2 = u ∧ (u * 4294967296 + d1) / Y ≤ p.1 ∧ p.1 ≤ 4294967297 ∧ p.2 < 4294967296 }) (fun p => ⟨[(2, .v (.lit (.int .u64 (Y : Int)))), (8, .v (.lit (.int .u64 (s : Int)))), (9, .v (.lit (.int .u64 (h : Int)))), (10, .v (.lit (.int .u64 (l : Int)))), (11, .v (.lit (.int .u64 (u : Int)))), (13, .v (.lit (.int .u64 (d1 : Int)))), (14, .v (.lit (.int .u64 (d0 : Int)))), (15, .v (.lit (.int .u64 (p.1.1 : Int)))), (16, .v (.lit (.int .u64 (p.1.2 : Int))))], [], H⟩) (fun p => p.1.1)
      ⟨(u / h, u % h), by have := Nat.div_add_mod u h; rw [Nat.mul_comm] at this; exact this, by rw [hYe]; exact half_init' h0 hd1l, half_top hh hl (hYe ▸ huY), Nat.lt_trans (Nat.mod_lt _ h0) h32⟩ (le_sub (sub_cons rfl (sub_cons rfl (sub_cons rfl (sub_cons rfl (sub_cons rfl (sub_cons rfl (sub_cons rfl (sub_cons rfl (sub_cons rfl (sub_nil _))))))))))) ?_
    rintro ⟨⟨q, r⟩, e, hQ, hq, hr⟩
    dsimp only at e hQ hq hr ⊢
    have iff : q ≤ (u * 4294967296 + d1) / Y ↔ q * l ≤ 4294967296 * r + d1 := by rw [hYe]; exact half_iff e h0
    have w1 := wrap_mul hq hl
    refine awp_seq_join (γ := PLift ((u * 4294967296 + d1) / Y < q)) (fun _ => ⟨[(2, .v (.lit (.int .u64 (Y : Int)))), (8, .v (.lit (.int .u64 (s : Int)))), (9, .v (.lit (.int .u64 (h : Int)))), (10, .v (.lit (.int .u64 (l : Int)))), (11, .v (.lit (.int .u64 (u : Int)))), (13, .v (.lit (.int .u64 (d1 : Int)))), (14, .v (.lit (.int .u64 (d0 : Int)))), (15, .v (.lit (.int .u64 (q : Int)))), (16, .v (.lit (.int .u64 (r : Int))))], [], H⟩) ?_ fun ⟨hlt⟩ => ?_
    · refine awp_seq_sw ?_
      refine swV (fun _ => rfl) ?_
      refine swV (fun _ => rfl) ?_
      refine swV (fun _ => rfl) ?_
      by_cases hc : 4294967296 ≤ q
      · rw [show decide ((q : Int) ≥ 4294967296) = true by simp; omega]
        repeat first | refine swV (fun _ => rfl) ?_ | refine sw_l (fun _ => rfl) trivial ?_ | refine sw_ln (fun _ => rfl) ⟨rfl, leB rfl⟩ ?_ | refine sw_vg rfl (fun _ => rfl) trivial ?_ | refine sw_sk rfl rfl ?_
        refine SW.nil ?_
        refine awp_cond rfl (fun _ => awp_skip ?_) fun hx => by cases hx
        refine ⟨⟨?_⟩, le_sub (sub_cons rfl (sub_cons rfl (sub_cons rfl (sub_cons rfl (sub_cons rfl (sub_cons rfl (sub_cons rfl (sub_cons rfl (sub_cons rfl (sub_nil _))))))))))⟩
        have := half_lt (Y := Y) hd1l huY
        omega
      · rw [show decide ((q : Int) ≥ 4294967296) = false by simp; omega]
        refine sw_vg rfl (fun _ => rfl) trivial ?_
        refine sw_vg rfl (fun _ => rfl) trivial ?_
        refine sw_vg rfl (u64_mulE (q * l) rfl rfl (Nat.mod_eq_of_lt w1)) trivial ?_
        refine sw_vg rfl (fun _ => rfl) trivial ?_
        refine sw_vg rfl (u64_mulE (p := 4294967296) (4294967296 * r) rfl rfl (Nat.mod_eq_of_lt (by simp only [B64]; omega))) trivial ?_
        refine sw_vg rfl (fun _ => rfl) trivial ?_
        refine sw_vg rfl (u64_addE (4294967296 * r + d1) rfl rfl (Nat.mod_eq_of_lt (by have := hd1l; simp only [B64]; omega))) trivial ?_
        repeat first | refine swV (fun _ => rfl) ?_ | refine sw_l (fun _ => rfl) trivial ?_ | refine sw_ln (fun _ => rfl) ⟨rfl, leB rfl⟩ ?_ | refine sw_vg rfl (fun _ => rfl) trivial ?_ | refine sw_sk rfl rfl ?_
        refine SW.nil ?_
        refine awp_cond rfl (fun hx => awp_skip ?_) fun hx => awp_exit ?_
        · have hx' : ¬ q * l ≤ 4294967296 * r + d1 := by
            have := of_decide_eq_true hx; omega
          exact ⟨⟨by have := mt iff.1 hx'; omega⟩, le_sub (sub_cons rfl (sub_cons rfl (sub_cons rfl (sub_cons rfl (sub_cons rfl (sub_cons rfl (sub_cons rfl (sub_cons rfl (sub_cons rfl (sub_nil _))))))))))⟩
        · have hx' : q * l ≤ 4294967296 * r + d1 := by
            have := of_decide_eq_false hx; omega
          have := iff.2 hx'
          obtain rfl : q = (u * 4294967296 + d1) / Y := by omega
          exact ⟨(), le_sub (sub_cons rfl (sub_cons rfl (sub_cons rfl (sub_cons rfl (sub_cons rfl (sub_cons rfl (sub_cons rfl (sub_cons rfl (sub_nil _)))))))))⟩
    · have e1 : (q - 1) * h + (r + h) = u := by
        rw [← e]
        obtain ⟨k, rfl⟩ : ∃ k, q = k + 1 := ⟨q - 1, by omega⟩
        rw [Nat.add_mul, Nat.add_sub_cancel]; omega
      have iff1 : q - 1 ≤ (u * 4294967296 + d1) / Y ↔ (q - 1) * l ≤ 4294967296 * (r + h) + d1 := by rw [hYe]; exact half_iff e1 h0
      have w2 := wrap_mul (show q - 1 ≤ 4294967297 by omega) hl
      refine awp_block (awp_seq_sw ?_)
      refine swV (fun _ => rfl) ?_
      refine sw_v (u64_sub (q := 1) rfl rfl (by omega) (by simp only [B64]; omega)) trivial ?_
      repeat first | refine swV (fun _ => rfl) ?_ | refine sw_l (fun _ => rfl) trivial ?_ | refine sw_ln (fun _ => rfl) ⟨rfl, leB rfl⟩ ?_ | refine sw_vg rfl (fun _ => rfl) trivial ?_ | refine sw_sk rfl rfl ?_
      refine SW.nil (awp_seq_sw ?_)
      refine swV (fun _ => rfl) ?_
      refine swV (fun _ => rfl) ?_
      refine sw_v (u64_add rfl rfl (by simp only [B64]; omega)) trivial ?_
      repeat first | refine swV (fun _ => rfl) ?_ | refine sw_l (fun _ => rfl) trivial ?_ | refine sw_ln (fun _ => rfl) ⟨rfl, leB rfl⟩ ?_ | refine sw_vg rfl (fun _ => rfl) trivial ?_ | refine sw_sk rfl rfl ?_
      refine SW.nil (awp_seq_sw ?_)
      repeat first | refine swV (fun _ => rfl) ?_ | refine sw_l (fun _ => rfl) trivial ?_ | refine sw_ln (fun _ => rfl) ⟨rfl, leB rfl⟩ ?_ | refine sw_vg rfl (fun _ => rfl) trivial ?_ | refine sw_sk rfl rfl ?_
      refine SW.nil (awp_cond rfl (fun hx => awp_exit ?_) fun hx => awp_skip ?_)
      · have hx' : 4294967296 ≤ r + h := by
          have := of_decide_eq_true hx; omega
        have : q - 1 ≤ (u * 4294967296 + d1) / Y := iff1.2 (by
          have := Nat.mul_le_mul (show q - 1 ≤ 4294967296 by omega) (Nat.le_of_lt hl)
          omega)
        have e3 : q - 1 = (u * 4294967296 + d1) / Y := by omega
        rw [e3]
        exact ⟨(), le_sub (sub_cons rfl (sub_cons rfl (sub_cons rfl (sub_cons rfl (sub_cons rfl (sub_cons rfl (sub_cons rfl (sub_cons rfl (sub_nil _)))))))))⟩
      · have hx' : ¬ 4294967296 ≤ r + h := by
          have := of_decide_eq_false hx; omega
        exact ⟨⟨(q - 1, r + h), e1, by dsimp only; omega, by dsimp only; omega, by dsimp only; omega⟩, by dsimp only; omega, le_sub (sub_cons rfl (sub_cons rfl (sub_cons rfl (sub_cons rfl (sub_cons rfl (sub_cons rfl (sub_cons rfl (sub_cons rfl (sub_cons rfl (sub_nil _))))))))))⟩
  rw [← hq1]
  refine awp_seq_sw ?_
  refine swV (fun _ => rfl) ?_
  refine sw_v (u64_mulE (q := 4294967296) (u * 4294967296 % B64) rfl rfl rfl) trivial ?_
  refine swV (fun _ => rfl) ?_
  refine sw_v (u64_addE ((u * 4294967296 % B64 + d1) % B64) rfl rfl rfl) trivial ?_
  refine swV (fun _ => rfl) ?_
  refine swV (fun _ => rfl) ?_
  refine sw_v (u64_mulE (q1 * Y % B64) rfl rfl rfl) trivial ?_
  refine sw_v (u64_subE r1 rfl rfl (Nat.le_of_lt (Nat.mod_lt _ (by decide))) (wrap_part m1 (Nat.lt_trans hr1Y hs2))) trivial ?_
  repeat first | refine swV (fun _ => rfl) ?_ | refine sw_l (fun _ => rfl) trivial ?_ | refine sw_ln (fun _ => rfl) ⟨rfl, leB rfl⟩ ?_ | refine sw_vg rfl (fun _ => rfl) trivial ?_ | refine sw_sk rfl rfl ?_
  refine SW.nil (awp_seq_sw ?_)
  refine swV (fun _ => rfl) ?_
  refine swV (fun _ => rfl) ?_
  refine sw_v (u64_quo rfl rfl (Nat.lt_trans hr1Y hs2)) (by omega) ?_
  repeat first | refine swV (fun _ => rfl) ?_ | refine sw_l (fun _ => rfl) trivial ?_ | refine sw_ln (fun _ => rfl) ⟨rfl, leB rfl⟩ ?_ | refine sw_vg rfl (fun _ => rfl) trivial ?_ | refine sw_sk rfl rfl ?_
  refine SW.nil (awp_seq_sw ?_)
  refine swV (fun _ => rfl) ?_
  refine swV (fun _ => rfl) ?_
  refine swV (fun _ => rfl) ?_
  refine sw_v (u64_mulE (r1 / h * h) rfl rfl (Nat.mod_eq_of_lt (Nat.lt_of_le_of_lt (Nat.div_mul_le_self r1 h) (Nat.lt_trans hr1Y hs2)))) trivial ?_
  refine sw_v (u64_sub rfl rfl (Nat.div_mul_le_self r1 h) (Nat.lt_trans hr1Y hs2)) trivial ?_
  rw [show r1 - r1 / h * h = r1 % h by have := Nat.div_add_mod r1 h; rw [Nat.mul_comm] at this; omega]
  repeat first | refine swV (fun _ => rfl) ?_ | refine sw_l (fun _ => rfl) trivial ?_ | refine sw_ln (fun _ => rfl) ⟨rfl, leB rfl⟩ ?_ | refine sw_vg rfl (fun _ => rfl) trivial ?_ | refine sw_sk rfl rfl ?_
  refine SW.nil ?_
  refine awp_seq_join (γ := Unit) (fun _ => ⟨[(2, .v (.lit (.int .u64 (Y : Int)))), (8, .v (.lit (.int .u64 (s : Int)))), (9, .v (.lit (.int .u64 (h : Int)))), (10, .v (.lit (.int .u64 (l : Int)))), (15, .v (.lit (.int .u64 (q1 : Int)))), (17, .v (.lit (.int .u64 (r1 : Int)))), (13, .v (.lit (.int .u64 (d1 : Int)))), (14, .v (.lit (.int .u64 (d0 : Int)))), (18, .v (.lit (.int .u64 (((r1 * 4294967296 + d0) / Y : Nat) : Int))))], [], H⟩) ?_ fun _ => ?_
  · refine awp_block ?_
    refine awp_loop (γ := { p : Nat × Nat // p.1 * h + p.2 = r1 ∧ (r1 * 4294967296 + d0) / Y ≤ p.1 ∧ p.1 ≤ 4294967297 ∧ p.2 < 4294967296 }) (fun p => ⟨[(2, .v (.lit (.int .u64 (Y : Int)))), (8, .v (.lit (.int .u64 (s : Int)))), (9, .v (.lit (.int .u64 (h : Int)))), (10, .v (.lit (.int .u64 (l : Int)))), (15, .v (.lit (.int .u64 (q1 : Int)))), (17, .v (.lit (.int .u64 (r1 : Int)))), (13, .v (.lit (.int .u64 (d1 : Int)))), (14, .v (.lit (.int .u64 (d0 : Int)))), (18, .v (.lit (.int .u64 (p.1.1 : Int)))), (16, .v (.lit (.int .u64 (p.1.2 : Int))))], [], H⟩) (fun p => p.1.1)
      ⟨(r1 / h, r1 % h), by have := Nat.div_add_mod r1 h; rw [Nat.mul_comm] at this; exact this, by rw [hYe]; exact half_init' h0 hd0l, half_top hh hl (hYe ▸ hr1Y), Nat.lt_trans (Nat.mod_lt _ h0) h32⟩ (le_sub (sub_cons rfl (sub_cons rfl (sub_cons rfl (sub_cons rfl (sub_cons rfl (sub_cons rfl (sub_cons rfl (sub_cons rfl (sub_cons rfl (sub_cons rfl (sub_nil _)))))))))))) ?_
    rintro ⟨⟨q, r⟩, e, hQ, hq, hr⟩
    dsimp only at e hQ hq hr ⊢
    have iff : q ≤ (r1 * 4294967296 + d0) / Y ↔ q * l ≤ 4294967296 * r + d0 := by rw [hYe]; exact half_iff e h0
    have w1 := wrap_mul hq hl
    refine awp_seq_join (γ := PLift ((r1 * 4294967296 + d0) / Y < q)) (fun _ => ⟨[(2, .v (.lit (.int .u64 (Y : Int)))), (8, .v (.lit (.int .u64 (s : Int)))), (9, .v (.lit (.int .u64 (h : Int)))), (10, .v (.lit (.int .u64 (l : Int)))), (15, .v (.lit (.int .u64 (q1 : Int)))), (17, .v (.lit (.int .u64 (r1 : Int)))), (13, .v (.lit (.int .u64 (d1 : Int)))), (14, .v (.lit (.int .u64 (d0 : Int)))), (18, .v (.lit (.int .u64 (q : Int)))), (16, .v (.lit (.int .u64 (r : Int))))], [], H⟩) ?_ fun ⟨hlt⟩ => ?_
    · refine awp_seq_sw ?_
      refine swV (fun _ => rfl) ?_
      refine swV (fun _ => rfl) ?_
      refine swV (fun _ => rfl) ?_
      by_cases hc : 4294967296 ≤ q
      · rw [show decide ((q : Int) ≥ 4294967296) = true by simp; omega]
        repeat first | refine swV (fun _ => rfl) ?_ | refine sw_l (fun _ => rfl) trivial ?_ | refine sw_ln (fun _ => rfl) ⟨rfl, leB rfl⟩ ?_ | refine sw_vg rfl (fun _ => rfl) trivial ?_ | refine sw_sk rfl rfl ?_
        refine SW.nil ?_
        refine awp_cond rfl (fun _ => awp_skip ?_) fun hx => by cases hx
        refine ⟨⟨?_⟩, le_sub (sub_cons rfl (sub_cons rfl (sub_cons rfl (sub_cons rfl (sub_cons rfl (sub_cons rfl (sub_cons rfl (sub_cons rfl (sub_cons rfl (sub_cons rfl (sub_nil _)))))))))))⟩
        have := half_lt (Y := Y) hd0l hr1Y
        omega
      · rw [show decide ((q : Int) ≥ 4294967296) = false by simp; omega]
        refine sw_vg rfl (fun _ => rfl) trivial ?_
        refine sw_vg rfl (fun _ => rfl) trivial ?_
        refine sw_vg rfl (u64_mulE (q * l) rfl rfl (Nat.mod_eq_of_lt w1)) trivial ?_
        refine sw_vg rfl (fun _ => rfl) trivial ?_
        refine sw_vg rfl (u64_mulE (p := 4294967296) (4294967296 * r) rfl rfl (Nat.mod_eq_of_lt (by simp only [B64]; omega))) trivial ?_
        refine sw_vg rfl (fun _ => rfl) trivial ?_
        refine sw_vg rfl (u64_addE (4294967296 * r + d0) rfl rfl (Nat.mod_eq_of_lt (by have := hd0l; simp only [B64]; omega))) trivial ?_
        repeat first | refine swV (fun _ => rfl) ?_ | refine sw_l (fun _ => rfl) trivial ?_ | refine sw_ln (fun _ => rfl) ⟨rfl, leB rfl⟩ ?_ | refine sw_vg rfl (fun _ => rfl) trivial ?_ | refine sw_sk rfl rfl ?_
        refine SW.nil ?_
        refine awp_cond rfl (fun hx => awp_skip ?_) fun hx => awp_exit ?_
        · have hx' : ¬ q * l ≤ 4294967296 * r + d0 := by
            have := of_decide_eq_true hx; omega
          exact ⟨⟨by have := mt iff.1 hx'; omega⟩, le_sub (sub_cons rfl (sub_cons rfl (sub_cons rfl (sub_cons rfl (sub_cons rfl (sub_cons rfl (sub_cons rfl (sub_cons rfl (sub_cons rfl (sub_cons rfl (sub_nil _)))))))))))⟩
        · have hx' : q * l ≤ 4294967296 * r + d0 := by
            have := of_decide_eq_false hx; omega
          have := iff.2 hx'
          obtain rfl : q = (r1 * 4294967296 + d0) / Y := by omega
          exact ⟨(), le_sub (sub_cons rfl (sub_cons rfl (sub_cons rfl (sub_cons rfl (sub_cons rfl (sub_cons rfl (sub_cons rfl (sub_cons rfl (sub_cons rfl (sub_nil _))))))))))⟩
    · have e1 : (q - 1) * h + (r + h) = r1 := by
        rw [← e]
        obtain ⟨k, rfl⟩ : ∃ k, q = k + 1 := ⟨q - 1, by omega⟩
        rw [Nat.add_mul, Nat.add_sub_cancel]; omega
      have iff1 : q - 1 ≤ (r1 * 4294967296 + d0) / Y ↔ (q - 1) * l ≤ 4294967296 * (r + h) + d0 := by rw [hYe]; exact half_iff e1 h0
      have w2 := wrap_mul (show q - 1 ≤ 4294967297 by omega) hl
      refine awp_block (awp_seq_sw ?_)
      refine swV (fun _ => rfl) ?_
      refine sw_v (u64_sub (q := 1) rfl rfl (by omega) (by simp only [B64]; omega)) trivial ?_
      repeat first | refine swV (fun _ => rfl) ?_ | refine sw_l (fun _ => rfl) trivial ?_ | refine sw_ln (fun _ => rfl) ⟨rfl, leB rfl⟩ ?_ | refine sw_vg rfl (fun _ => rfl) trivial ?_ | refine sw_sk rfl rfl ?_
      refine SW.nil (awp_seq_sw ?_)
      refine swV (fun _ => rfl) ?_
      refine swV (fun _ => rfl) ?_
      refine sw_v (u64_add rfl rfl (by simp only [B64]; omega)) trivial ?_
      repeat first | refine swV (fun _ => rfl) ?_ | refine sw_l (fun _ => rfl) trivial ?_ | refine sw_ln (fun _ => rfl) ⟨rfl, leB rfl⟩ ?_ | refine sw_vg rfl (fun _ => rfl) trivial ?_ | refine sw_sk rfl rfl ?_
      refine SW.nil (awp_seq_sw ?_)
      repeat first | refine swV (fun _ => rfl) ?_ | refine sw_l (fun _ => rfl) trivial ?_ | refine sw_ln (fun _ => rfl) ⟨rfl, leB rfl⟩ ?_ | refine sw_vg rfl (fun _ => rfl) trivial ?_ | refine sw_sk rfl rfl ?_
      refine SW.nil (awp_cond rfl (fun hx => awp_exit ?_) fun hx => awp_skip ?_)
      · have hx' : 4294967296 ≤ r + h := by
          have := of_decide_eq_true hx; omega
        have : q - 1 ≤ (r1 * 4294967296 + d0) / Y := iff1.2 (by
          have := Nat.mul_le_mul (show q - 1 ≤ 4294967296 by omega) (Nat.le_of_lt hl)
          omega)
        have e3 : q - 1 = (r1 * 4294967296 + d0) / Y := by omega
        rw [e3]
        exact ⟨(), le_sub (sub_cons rfl (sub_cons rfl (sub_cons rfl (sub_cons rfl (sub_cons rfl (sub_cons rfl (sub_cons rfl (sub_cons rfl (sub_cons rfl (sub_nil _))))))))))⟩
      · have hx' : ¬ 4294967296 ≤ r + h := by
          have := of_decide_eq_false hx; omega
        exact ⟨⟨(q - 1, r + h), e1, by dsimp only; omega, by dsimp only; omega, by dsimp only; omega⟩, by dsimp only; omega, le_sub (sub_cons rfl (sub_cons rfl (sub_cons rfl (sub_cons rfl (sub_cons rfl (sub_cons rfl (sub_cons rfl (sub_cons rfl (sub_cons rfl (sub_cons rfl (sub_nil _)))))))))))⟩
  rw [← hq0]
  refine awp_seq_sw ?_
  refine swV (fun _ => rfl) ?_
  refine sw_v (u64_mulE (q := 4294967296) (q1 * 4294967296) rfl rfl (Nat.mod_eq_of_lt (by simp only [B64]; omega))) trivial ?_
  refine swV (fun _ => rfl) ?_
  refine sw_v (u64_add rfl rfl (by simp only [B64]; omega)) trivial ?_
  refine swV (fun _ => rfl) ?_
  refine sw_v (u64_mulE (q := 4294967296) (r1 * 4294967296 % B64) rfl rfl rfl) trivial ?_
  refine swV (fun _ => rfl) ?_
  refine sw_v (u64_addE ((r1 * 4294967296 % B64 + d0) % B64) rfl rfl rfl) trivial ?_
  refine swV (fun _ => rfl) ?_
  refine swV (fun _ => rfl) ?_
  refine sw_v (u64_mulE (q0 * Y % B64) rfl rfl rfl) trivial ?_
  refine sw_v (u64_subE r0 rfl rfl (Nat.le_of_lt (Nat.mod_lt _ (by decide))) (wrap_part m0 (Nat.lt_trans hr0Y hs2))) trivial ?_
  refine swV (fun _ => rfl) ?_
  refine sw_v (u64_shrE s ((hi * B64 + lo) % y) rfl rfl (by omega) hrem) (by omega) ?_
  rw [← hquo]
  repeat first | refine swV (fun _ => rfl) ?_ | refine sw_l (fun _ => rfl) trivial ?_ | refine sw_ln (fun _ => rfl) ⟨rfl, leB rfl⟩ ?_ | refine sw_vg rfl (fun _ => rfl) trivial ?_ | refine sw_sk rfl rfl ?_
  refine SW.nil (awp_ret ?_)
  exact ⟨.inr rfl, _, rfl, rfl, rfl⟩
end Iso

/- Dividing a magnitude by a word: mag.word. -/
namespace Iso
open Go Go.Proofs
theorem set_front (z : Nat) (qs : List Nat) (e o : Nat) : (zeros z ++ o :: qs).set z e = zeros z ++ e :: qs := by
  rw [List.set_append_right _ _ (by simp [zeros_length])]; simp [zeros_length]
theorem zeros_snoc (i : Nat) (qs : List Nat) : zeros (i + 1) ++ qs = zeros i ++ 0 :: qs := by
  rw [show zeros (i + 1) = zeros i ++ [0] by simp [zeros, List.replicate_succ']]; simp
theorem le_frzd {L : Loc} {H : AH} {A : Env} {t b n : Nat} {ds : List Nat} (hb : H.get b = some (.cells (digV ds))) (hn : n = ds.length) :
    Le ⟨(t, .v (.hs b 0 n 1)) :: A, L, H⟩ ⟨(t, .v (.vs (digV ds) n)) :: A.frz b (digV ds), L, H.del b⟩ := by
  have := le_frz (s := ⟨(t, .v (.hs b 0 n 1)) :: A, L, H⟩) hb
  have e : (digV ds).take (n * 1) = digV ds := List.take_of_length_le (by simp [digV_length, hn])
  rw [Nat.mul_one] at e
  simpa [Env.frz, T.frz, V.frz, e] using this
/-- 'mag.word'. -/
theorem fn_word (ds : List Nat) (v : V) (y : Nat) (hs : IsSl ds v) (hd : Dig ds) (hl : ds.length < 2 ^ 40) (hy : 0 < y) (hy2 : y < B64) (H : AH) :
    ∃ w, IsMag (val ds / y) w ∧ FN Tryz.prog 150 [v, .lit (.int .u64 (y : Int))] H (.tup [w, .lit (.int .u64 ((val ds % y : Nat) : Int))]) H := by
  suffices h : ∃ v' H', FN Tryz.prog 150 [v, .lit (.int .u64 (y : Int))] H v' H' ∧ ((∃ w, v' = .tup [w, .lit (.int .u64 ((val ds % y : Nat) : Int))] ∧ IsMag (val ds / y) w) ∧ ∀ b, b < H.next → H'.get b = H.get b) by
    obtain ⟨v', H', h1, ⟨w, rfl, hw⟩, h3⟩ := h
    obtain ⟨ds, hd, _⟩ := id hw
    exact ⟨w, hw, h1.quiet h3 ⟨hd.under _, trivial, trivial⟩⟩
  refine fn_of cf150 (by simp) ?_
  show AWp _ _ _ ac150 _ _
  unfold ac150
  refine awp_seq_sw ?_
  repeat first | refine swV (fun _ => rfl) ?_ | refine sw_l (fun _ => rfl) trivial ?_ | refine sw_ln (fun _ => rfl) ⟨rfl, leB rfl⟩ ?_ | refine sw_vg rfl (fun _ => rfl) trivial ?_ | refine sw_sk rfl rfl ?_
  refine SW.nil (awp_seq_sw ?_)
  refine swV (fun _ => rfl) ?_
  refine sw_v (len_sl rfl hs) trivial ?_
  refine sw_hh [] (mks_dig rfl rfl) ⟨by omega, by omega, by omega, by omega⟩ ?_
  repeat first | refine swV (fun _ => rfl) ?_ | refine sw_l (fun _ => rfl) trivial ?_ | refine sw_ln (fun _ => rfl) ⟨rfl, leB rfl⟩ ?_ | refine sw_vg rfl (fun _ => rfl) trivial ?_ | refine sw_sk rfl rfl ?_
  refine SW.nil (awp_seq_sw ?_)
  repeat first | refine swV (fun _ => rfl) ?_ | refine sw_l (fun _ => rfl) trivial ?_ | refine sw_ln (fun _ => rfl) ⟨rfl, leB rfl⟩ ?_ | refine sw_vg rfl (fun _ => rfl) trivial ?_ | refine sw_sk rfl rfl ?_
  refine SW.nil (awp_seq_seq_sw ?_)
  refine swV (fun _ => rfl) ?_
  refine sw_v (len_sl rfl hs) trivial ?_
  refine swV (fun _ => rfl) ?_
  rw [show IntKind.i64.wrap ((ds.length : Int) - 1) = (ds.length : Int) - 1 from by rw [wrap_i64] <;> omega]
  repeat first | refine swV (fun _ => rfl) ?_ | refine sw_l (fun _ => rfl) trivial ?_ | refine sw_ln (fun _ => rfl) ⟨rfl, leB rfl⟩ ?_ | refine sw_vg rfl (fun _ => rfl) trivial ?_ | refine sw_sk rfl rfl ?_
  refine SW.nil (awp_block ?_)
  refine awp_loop (γ := { p : Nat × List Nat × Nat // p.1 ≤ ds.length ∧ p.1 + p.2.1.length = ds.length ∧ Dig p.2.1 ∧ p.2.2 < y ∧ val (ds.drop p.1) = val p.2.1 * y + p.2.2 })
    (fun p => ⟨[(0, .v v), (1, .v (.lit (.int .u64 (y : Int)))), (6, .v (.hs H.next 0 ds.length 1)), (7, .v (.lit (.int .u64 (p.1.2.2 : Int)))), (8, .v (.lit (.int .i64 ((p.1.1 : Int) - 1))))], [], H.push (.cells (digV (zeros p.1.1 ++ p.1.2.1)))⟩)
    (fun p => p.1.1) ⟨(ds.length, [], 0), Nat.le_refl _, by simp, Dig.nil, hy, by simp [val]⟩ ?_ ?_
  · dsimp only
    rw [List.append_nil]
    exact le_sub (sub_cons rfl (sub_cons rfl (sub_cons rfl (sub_cons rfl (sub_cons rfl (sub_nil _))))))
  rintro ⟨⟨i, qs, r⟩, hi, hq, dq, hr, e⟩
  dsimp only at hi hq dq hr e ⊢
  refine awp_seq_seq_sw ?_
  repeat first | refine swV (fun _ => rfl) ?_ | refine sw_l (fun _ => rfl) trivial ?_ | refine sw_ln (fun _ => rfl) ⟨rfl, leB rfl⟩ ?_ | refine sw_vg rfl (fun _ => rfl) trivial ?_ | refine sw_sk rfl rfl ?_
  refine SW.nil ?_
  refine awp_cond rfl (fun h => awp_skip ?_) fun h => awp_exit ?_
  · obtain ⟨j, rfl⟩ : ∃ j, i = j + 1 := ⟨i - 1, by have := of_decide_eq_true h; omega⟩
    have hj : j < ds.length := by omega
    have ha : ds.drop j = ds[j] :: ds.drop (j + 1) := (List.getElem_cons_drop hj).symm
    have hp := hd ds[j] (List.getElem_mem hj)
    have hj' : ((j + 1 : Nat) : Int) - 1 = (j : Int) := by omega
    have hqd : (r * B64 + ds[j]) / y < B64 := by
      rw [Nat.div_lt_iff_lt_mul hy]
      have := Nat.mul_le_mul_right B64 (show r + 1 ≤ y by omega)
      rw [Nat.add_mul, Nat.mul_comm y] at this
      omega
    obtain rfl := hs.vs (by rintro rfl; simp at hj)
    rw [hj', zeros_snoc]
    refine awp_seq (awp_block (awp_sw ?_))
    refine swV (fun _ => rfl) ?_
    refine swV (fun _ => rfl) ?_
    refine swV (fun _ => rfl) ?_
    refine swV (fun _ => rfl) ?_
    refine swV (fun _ => rfl) ?_
    refine sw_v (iad_dig _ _ rfl rfl ha) ⟨by omega, by omega⟩ ?_
    repeat first | refine swV (fun _ => rfl) ?_ | refine sw_l (fun _ => rfl) trivial ?_ | refine sw_ln (fun _ => rfl) ⟨rfl, leB rfl⟩ ?_ | refine sw_vg rfl (fun _ => rfl) trivial ?_ | refine sw_sk rfl rfl ?_
    refine sw_call rfl (fn_div64w r ds[j] y hr hp hy2 _) ?_
    repeat first | refine swV (fun _ => rfl) ?_ | refine sw_l (fun _ => rfl) trivial ?_ | refine sw_ln (fun _ => rfl) ⟨rfl, leB rfl⟩ ?_ | refine sw_vg rfl (fun _ => rfl) trivial ?_ | refine sw_sk rfl rfl ?_
    refine sw_hv [] (iad_hs rfl rfl (AH.push_get _ _)) ⟨by omega, by omega, rfl⟩ ?_
    refine sw_hhn [] (st_dig rfl rfl (AH.push_get _ _) (by simp [zeros_length])) ⟨rfl, by simp [digV_length, zeros_length]⟩ ?_
    repeat first | refine swV (fun _ => rfl) ?_ | refine sw_l (fun _ => rfl) trivial ?_ | refine sw_ln (fun _ => rfl) ⟨rfl, leB rfl⟩ ?_ | refine sw_vg rfl (fun _ => rfl) trivial ?_ | refine sw_sk rfl rfl ?_
    refine SW.nil ?_
    show AWp _ _ _ _ _ _
    refine awp_sw ?_
    refine swV (fun _ => rfl) ?_
    refine swV (fun _ => rfl) ?_
    rw [show IntKind.i64.wrap ((j : Int) - 1) = (j : Int) - 1 from by rw [wrap_i64] <;> omega]
    repeat first | refine swV (fun _ => rfl) ?_ | refine sw_l (fun _ => rfl) trivial ?_ | refine sw_ln (fun _ => rfl) ⟨rfl, leB rfl⟩ ?_ | refine sw_vg rfl (fun _ => rfl) trivial ?_ | refine sw_sk rfl rfl ?_
    refine SW.nil ?_
    rw [AH.push_set, set_front]
    refine ⟨⟨(j, ((r * B64 + ds[j]) / y) :: qs, (r * B64 + ds[j]) % y), by dsimp only; omega, by simp at hq ⊢; omega, Dig.cons hqd dq, Nat.mod_lt _ hy, ?_⟩, by dsimp only; omega, le_sub (sub_cons rfl (sub_cons rfl (sub_cons rfl (sub_cons rfl (sub_cons rfl (sub_nil _))))))⟩
    dsimp only
    rw [ha]
    simp only [val]
    rw [e]
    have := Nat.div_add_mod (r * B64 + ds[j]) y
    rw [Nat.mul_comm y] at this
    rw [Nat.add_mul, Nat.mul_add, Nat.mul_comm B64 r, Nat.mul_assoc]
    omega
  · obtain rfl : i = 0 := by have := of_decide_eq_false h; omega
    show AWp _ _ _ _ _ _
    have e : val ds = val qs * y + r := e
    have hq : qs.length = ds.length := by simpa using hq
    have e1 : val ds / y = val qs := by rw [e, Nat.mul_comm, Nat.mul_add_div hy, Nat.div_eq_of_lt hr, Nat.add_zero]
    have e2 : val ds % y = r := by rw [e, Nat.mul_comm, Nat.mul_add_mod, Nat.mod_eq_of_lt hr]
    rw [e1, e2, show zeros 0 ++ qs = qs from rfl]
    obtain ⟨w, hw, fw⟩ := fn_right qs (.vs (digV qs) ds.length) (.inl (by rw [hq])) (by omega) ((H.push (.cells (digV qs))).del H.next)
    refine awp_le (le_sub (sub_cons (t := 6) rfl (sub_cons (t := 7) rfl (sub_nil _)))) ?_
    refine awp_le (le_frzd (AH.push_get H _) hq.symm) ?_
    refine awp_seq_sw ?_
    repeat first | refine swV (fun _ => rfl) ?_ | refine sw_l (fun _ => rfl) trivial ?_ | refine sw_ln (fun _ => rfl) ⟨rfl, leB rfl⟩ ?_ | refine sw_vg rfl (fun _ => rfl) trivial ?_ | refine sw_sk rfl rfl ?_
    refine sw_call rfl fw ?_
    repeat first | refine swV (fun _ => rfl) ?_ | refine sw_l (fun _ => rfl) trivial ?_ | refine sw_ln (fun _ => rfl) ⟨rfl, leB rfl⟩ ?_ | refine sw_vg rfl (fun _ => rfl) trivial ?_ | refine sw_sk rfl rfl ?_
    refine SW.nil (awp_ret ?_)
    refine ⟨.inr rfl, _, rfl, ⟨w, rfl, trim qs, hw, dq.trim, trim_trim _, by rw [val_trim]⟩, ?_⟩
    intro b hb
    dsimp only
    rw [AH.get_del, if_neg (by omega), AH.push_lt hb]
end Iso

/- Shifting magnitudes by less than a word: mag.Up, mag.Down. -/
namespace Iso
open Go Go.Proofs
section
variable {ev : Opd → T} {Lg : Nat → Option (List V)} {d : Option Nat} {x y : Opd} {p q : Nat}
theorem i64_quo (hx : ev x = .v (.lit (.int .i64 (p : Int)))) (hy : ev y = .v (.lit (.int .i64 (q : Int)))) (hp : p < 9223372036854775808) :
    ∀ H, aopE [] d (.bin .quo x y) ev Lg H = some ⟨(q : Int) ≠ 0, .v (.lit (.int .i64 ((p / q : Nat) : Int))), {}⟩ := fun H => by
  have h0 : p / q ≤ p := Nat.div_le_self p q
  have : IntKind.i64.wrap ((p : Int).tdiv (q : Int)) = ((p / q : Nat) : Int) := by
    rw [show (p : Int).tdiv (q : Int) = ((p / q : Nat) : Int) from rfl, wrap_i64 (by generalize p / q = r at *; omega) (by generalize p / q = r at *; omega)]
  rw [← this]; simp only [aopE, hx, hy]; rfl
theorem i64_rem (hx : ev x = .v (.lit (.int .i64 (p : Int)))) (hy : ev y = .v (.lit (.int .i64 (q : Int)))) :
    ∀ H, aopE [] d (.bin .rem x y) ev Lg H = some ⟨(q : Int) ≠ 0, .v (.lit (.int .i64 ((p % q : Nat) : Int))), {}⟩ := fun H => by
  have : (p : Int).tmod (q : Int) = ((p % q : Nat) : Int) := rfl
  rw [← this]; simp only [aopE, hx, hy]; rfl
theorem mnx_max {a b r : Int} (hx : ev x = .v (.lit (.int .i64 a))) (hy : ev y = .v (.lit (.int .i64 b))) (e : (if b > a then b else a) = r) :
    ∀ H, aopE [] d (.mnx true [x, y]) ev Lg H = some ⟨True, .v (.lit (.int .i64 r)), {}⟩ := fun H => by
  simp only [aopE, evE, hx, hy, mnV, outV, if_true, e]
theorem mnx_min {a b r : Int} (hx : ev x = .v (.lit (.int .i64 a))) (hy : ev y = .v (.lit (.int .i64 b))) (e : (if b < a then b else a) = r) :
    ∀ H, aopE [] d (.mnx false [x, y]) ev Lg H = some ⟨True, .v (.lit (.int .i64 r)), {}⟩ := fun H => by
  simp only [aopE, evE, hx, hy, mnV, outV, Bool.false_eq_true, if_false, e]
theorem sls_0 {ds : List Nat} (hx : ev x = .v (.vs (digV ds) ds.length)) (hy : ev y = .v (.lit (.int .i64 0))) :
    ∀ H, aopE [] d (.sls 1 x (some y) none) ev Lg H = some ⟨True ∧ (0 : Int) ≤ 0 ∧ (0 : Int) ≤ ds.length, .v (.vs (digV ds) ds.length), {}⟩ := fun H => by
  simp only [aopE, hx, slLen, bdE, hy, slV, digV_length]
  simp [digV]
  exact List.take_of_length_le (by simp)
end
theorem pow_split {k : Nat} (h : k ≤ 64) : 2 ^ (64 - k) * 2 ^ k = B64 := by rw [← Nat.pow_add, show 64 - k + k = 64 by omega]; rfl
theorem shl_parts {x k : Nat} (hx : x < B64) (h : k ≤ 64) : x * 2 ^ k = x * 2 ^ k % B64 + B64 * (x / 2 ^ (64 - k)) ∧ x / 2 ^ (64 - k) < 2 ^ k ∨ k = 64 := by
  rcases Nat.lt_or_ge k 64 with hk | hk
  · left
    have e : x * 2 ^ k / B64 = x / 2 ^ (64 - k) := by rw [← pow_split h, Nat.mul_div_mul_right _ _ (Nat.two_pow_pos k)]
    refine ⟨?_, ?_⟩
    · rw [← e]; have := Nat.div_add_mod (x * 2 ^ k) B64; omega
    · rw [Nat.div_lt_iff_lt_mul (Nat.two_pow_pos _), Nat.mul_comm, pow_split h]; exact hx
  · exact .inr (by omega)
/-- What is shifted has noughts below. -/
theorem or_low {c x k : Nat} (hc : c < 2 ^ k) (hk : k ≤ 64) : c ||| (x * 2 ^ k % B64) = c + x * 2 ^ k % B64 := by
  have e : x * 2 ^ k % B64 = 2 ^ k * (x % 2 ^ (64 - k)) := by
    rw [← pow_split hk, Nat.mul_comm (2 ^ (64 - k)), Nat.mul_comm x, Nat.mul_mod_mul_left]
  rw [e, Nat.or_comm, ← Nat.two_pow_add_eq_or_of_lt hc]; omega
theorem sum_low {c x k : Nat} (hc : c < 2 ^ k) (hk : k ≤ 64) : c + x * 2 ^ k % B64 < B64 := by
  rw [← or_low hc hk]
  exact Nat.or_lt_two_pow (n := 64) (Nat.lt_of_lt_of_le hc (Nat.pow_le_pow_right (by decide) hk)) (Nat.mod_lt _ (by decide))
/-- 'mag.Up', by less than a word. -/
theorem fn_up (ds : List Nat) (v : V) (k : Nat) (hv : IsSl ds v) (hd : Dig ds) (ht : trim ds = ds) (hl : ds.length < 2 ^ 40) (hk : k < 64) (H : AH) :
    ∃ w, IsMag (val ds * 2 ^ k) w ∧ FN Tryz.prog 151 [v, .lit (.int .i64 (k : Int))] H w H := by
  suffices h : ∃ w H', FN Tryz.prog 151 [v, .lit (.int .i64 (k : Int))] H w H' ∧ (IsMag (val ds * 2 ^ k) w ∧ ∀ b, b < H.next → H'.get b = H.get b) by
    obtain ⟨w, H', h1, h2, h3⟩ := h
    obtain ⟨ds, hd, _⟩ := id h2
    exact ⟨w, h2, h1.quiet h3 (hd.under _)⟩
  obtain ⟨v', hv', fv⟩ := fn_right ds v hv (by omega) H
  rw [ht] at hv'
  refine fn_of cf151 (by simp) ?_
  show AWp _ _ _ ac151 _ _
  unfold ac151
  refine awp_seq_sw ?_
  repeat first | refine swV (fun _ => rfl) ?_ | refine sw_l (fun _ => rfl) trivial ?_ | refine sw_ln (fun _ => rfl) ⟨rfl, leB rfl⟩ ?_ | refine sw_vg rfl (fun _ => rfl) trivial ?_ | refine sw_sk rfl rfl ?_
  refine SW.nil (awp_seq_sw ?_)
  refine swV (fun _ => rfl) ?_
  refine sw_v (mnx_max (r := (k : Int)) rfl rfl (if_neg (by omega))) trivial ?_
  refine sw_v (mnx_min (r := (k : Int)) rfl rfl (if_neg (by omega))) trivial ?_
  repeat first | refine swV (fun _ => rfl) ?_ | refine sw_l (fun _ => rfl) trivial ?_ | refine sw_ln (fun _ => rfl) ⟨rfl, leB rfl⟩ ?_ | refine sw_vg rfl (fun _ => rfl) trivial ?_ | refine sw_sk rfl rfl ?_
  refine SW.nil (awp_seq_sw ?_)
  refine swV (fun _ => rfl) ?_
  refine sw_call rfl fv ?_
  repeat first | refine swV (fun _ => rfl) ?_ | refine sw_l (fun _ => rfl) trivial ?_ | refine sw_ln (fun _ => rfl) ⟨rfl, leB rfl⟩ ?_ | refine sw_vg rfl (fun _ => rfl) trivial ?_ | refine sw_sk rfl rfl ?_
  refine SW.nil (awp_seq_seq_sw ?_)
  refine swV (fun _ => rfl) ?_
  refine sw_v (len_sl rfl hv') trivial ?_
  repeat first | refine swV (fun _ => rfl) ?_ | refine sw_l (fun _ => rfl) trivial ?_ | refine sw_ln (fun _ => rfl) ⟨rfl, leB rfl⟩ ?_ | refine sw_vg rfl (fun _ => rfl) trivial ?_ | refine sw_sk rfl rfl ?_
  refine SW.nil ?_
  refine awp_cond rfl (fun h => ?_) fun h => awp_skip ?_
  · have h0 : ds = [] := by simpa using h
    subst h0
    refine awp_seq_sw ?_
    repeat first | refine swV (fun _ => rfl) ?_ | refine sw_l (fun _ => rfl) trivial ?_ | refine sw_ln (fun _ => rfl) ⟨rfl, leB rfl⟩ ?_ | refine sw_vg rfl (fun _ => rfl) trivial ?_ | refine sw_sk rfl rfl ?_
    refine SW.nil (awp_ret ?_)
    exact ⟨.inr rfl, _, rfl, ⟨[], .inr ⟨rfl, none, rfl⟩, Dig.nil, rfl, by simp [val]⟩, fun _ _ => rfl⟩
  · have hne : ds ≠ [] := by rintro rfl; simp at h
    obtain rfl := hv'.vs hne
    show AWp _ _ _ _ _ _
    refine awp_seq_sw ?_
    refine swV (fun _ => rfl) ?_
    refine sw_v (i64_quo (q := 64) rfl rfl (by omega)) (by decide) ?_
    rw [show k / 64 = 0 by omega]
    refine swV (fun _ => rfl) ?_
    refine swV (fun _ => rfl) ?_
    refine sw_v (i64_add rfl rfl (by omega)) trivial ?_
    refine sw_v (i64_add (q := 1) rfl rfl (by omega)) trivial ?_
    refine sw_hh [] (mks_dig rfl rfl) ⟨by omega, by omega, by omega, by omega⟩ ?_
    repeat first | refine swV (fun _ => rfl) ?_ | refine sw_l (fun _ => rfl) trivial ?_ | refine sw_ln (fun _ => rfl) ⟨rfl, leB rfl⟩ ?_ | refine sw_vg rfl (fun _ => rfl) trivial ?_ | refine sw_sk rfl rfl ?_
    rw [Nat.zero_add]
    refine SW.nil (awp_seq_sw ?_)
    refine swV (fun _ => rfl) ?_
    refine sw_v (i64_rem (q := 64) rfl rfl) (by decide) ?_
    rw [show k % 64 = k by omega]
    refine sw_v (cv_u64 rfl (by simp only [B64]; omega)) trivial ?_
    repeat first | refine swV (fun _ => rfl) ?_ | refine sw_l (fun _ => rfl) trivial ?_ | refine sw_ln (fun _ => rfl) ⟨rfl, leB rfl⟩ ?_ | refine sw_vg rfl (fun _ => rfl) trivial ?_ | refine sw_sk rfl rfl ?_
    refine SW.nil (awp_seq_seq_sw ?_)
    repeat first | refine swV (fun _ => rfl) ?_ | refine sw_l (fun _ => rfl) trivial ?_ | refine sw_ln (fun _ => rfl) ⟨rfl, leB rfl⟩ ?_ | refine sw_vg rfl (fun _ => rfl) trivial ?_ | refine sw_sk rfl rfl ?_
    refine SW.nil (awp_block ?_)
    refine awp_loop (γ := { p : Nat × List Nat × Nat // p.1 ≤ ds.length ∧ p.2.1.length = p.1 ∧ Dig p.2.1 ∧ p.2.2 < 2 ^ k ∧ val (p.2.1 ++ [p.2.2]) = val (ds.take p.1) * 2 ^ k })
      (fun p => ⟨[(0, .v (.vs (digV ds) ds.length)), (1, .v (.lit (.int .i64 (k : Int)))), (5, .v (.hs H.next 0 (ds.length + 1) 1)), (6, .v (.lit (.int .u64 (k : Int)))), (27, .v (.vs (digV ds) ds.length)), (28, .v (.lit (.int .i64 ds.length))), (29, .v (.lit (.int .i64 (p.1.1 : Int))))], [],
        H.push (.cells (digV (p.1.2.1 ++ p.1.2.2 :: zeros (ds.length - p.1.1))))⟩) (fun p => ds.length - p.1.1)
      ⟨(0, [], 0), Nat.zero_le _, rfl, Dig.nil, Nat.two_pow_pos k, by simp [val]⟩ ?_ ?_
    · dsimp only
      rw [show [] ++ 0 :: zeros (ds.length - 0) = zeros (ds.length + 1) by rw [zeros_succ]; rfl]
      exact le_sub (sub_cons rfl (sub_cons rfl (sub_cons rfl (sub_cons rfl (sub_cons rfl (sub_cons rfl (sub_cons rfl (sub_nil _))))))))
    rintro ⟨⟨i, os, c⟩, hi, ho, dos, hc, e⟩
    dsimp only at hi ho dos hc e ⊢
    refine awp_seq_sw ?_
    repeat first | refine swV (fun _ => rfl) ?_ | refine sw_l (fun _ => rfl) trivial ?_ | refine sw_ln (fun _ => rfl) ⟨rfl, leB rfl⟩ ?_ | refine sw_vg rfl (fun _ => rfl) trivial ?_ | refine sw_sk rfl rfl ?_
    refine SW.nil (awp_seq (awp_cond rfl (fun h => ?_) fun h => ?_))
    · have hlt : i < ds.length := by simpa using h
      refine awp_skip ?_
      have ha : ds.drop i = ds[i] :: ds.drop (i + 1) := (List.getElem_cons_drop hlt).symm
      have hp := hd ds[i] (List.getElem_mem hlt)
      obtain ⟨sp1, sp2⟩ := (shl_parts (k := k) hp (by omega)).resolve_right (by omega)
      have hcb : c < B64 := Nat.lt_of_lt_of_le hc (by rw [← pow_split (show k ≤ 64 by omega)]; exact Nat.le_mul_of_pos_left _ (Nat.two_pow_pos _))
      have hz : zeros (ds.length - i) = 0 :: zeros (ds.length - (i + 1)) := by
        rw [show ds.length - i = (ds.length - (i + 1)) + 1 by omega, zeros_succ]
      have hsum := sum_low (x := ds[i]) hc (show k ≤ 64 by omega)
      have hval : val ((os ++ [c + ds[i] * 2 ^ k % B64]) ++ [ds[i] / 2 ^ (64 - k)]) = val (ds.take (i + 1)) * 2 ^ k := by
        rw [val_snoc, val_snoc, take_getD, show ds.getD i 0 = ds[i] by simp [List.getD_eq_getElem?_getD, hlt]]
        rw [val_snoc] at e
        simp only [List.length_append, List.length_cons, List.length_nil, ho, Nat.zero_add, Nat.pow_succ] at e ⊢
        generalize ds[i] * 2 ^ k % B64 = lo at *
        rw [Nat.add_mul, ← e, Nat.mul_assoc (B64 ^ i) ds[i], sp1, Nat.mul_add, Nat.mul_add, Nat.mul_assoc]
        omega
      refine awp_seq (awp_block ?_)
      refine awp_seq_sw ?_
      repeat first | refine swV (fun _ => rfl) ?_ | refine sw_l (fun _ => rfl) trivial ?_ | refine sw_ln (fun _ => rfl) ⟨rfl, leB rfl⟩ ?_ | refine sw_vg rfl (fun _ => rfl) trivial ?_ | refine sw_sk rfl rfl ?_
      refine sw_v (iad_dig _ _ rfl rfl ha) ⟨by omega, by omega⟩ ?_
      repeat first | refine swV (fun _ => rfl) ?_ | refine sw_l (fun _ => rfl) trivial ?_ | refine sw_ln (fun _ => rfl) ⟨rfl, leB rfl⟩ ?_ | refine sw_vg rfl (fun _ => rfl) trivial ?_ | refine sw_sk rfl rfl ?_
      refine SW.nil (awp_seq_sw ?_)
      refine swV (fun _ => rfl) ?_
      refine swV (fun _ => rfl) ?_
      refine sw_v (i64_quo (q := 64) rfl rfl (by omega)) (by decide) ?_
      rw [show k / 64 = 0 by omega]
      refine swV (fun _ => rfl) ?_
      refine sw_v (i64_add rfl rfl (by omega)) trivial ?_
      rw [Nat.zero_add]
      refine sw_hv [] (iad_hs rfl rfl (AH.push_get _ _)) ⟨by omega, by omega, rfl⟩ ?_
      refine sw_hv [] (ld_dig (e := c) rfl (AH.push_get _ _) (by rw [List.getElem?_append_right (by omega), ho, Nat.sub_self]; rfl)) trivial ?_
      refine swV (fun _ => rfl) ?_
      refine swV (fun _ => rfl) ?_
      refine sw_v (u64_shlE k _ rfl rfl (by omega) rfl) (by omega) ?_
      refine sw_v (u64_orE (c + ds[i] * 2 ^ k % B64) rfl rfl hcb (Nat.mod_lt _ (by decide)) (or_low hc (by omega))) trivial ?_
      refine sw_hv [] (iad_hs rfl rfl (AH.push_get _ _)) ⟨by omega, by omega, rfl⟩ ?_
      refine sw_hhn [] (st_dig rfl rfl (AH.push_get _ _) (by simp [ho])) ⟨rfl, by simp [digV_length, zeros_length, ho]⟩ ?_
      rw [AH.push_set, hz, set_at ho]
      refine SW.nil (awp_seq_sw ?_)
      repeat first | refine swV (fun _ => rfl) ?_ | refine sw_l (fun _ => rfl) trivial ?_ | refine sw_ln (fun _ => rfl) ⟨rfl, leB rfl⟩ ?_ | refine sw_vg rfl (fun _ => rfl) trivial ?_ | refine sw_sk rfl rfl ?_
      refine SW.nil ?_
      refine awp_cond rfl (fun h => ?_) fun h => awp_skip ?_
      · refine awp_sw ?_
        refine swV (fun _ => rfl) ?_
        refine swV (fun _ => rfl) ?_
        refine sw_v (i64_quo (q := 64) rfl rfl (by omega)) (by decide) ?_
        rw [show k / 64 = 0 by omega]
        refine swV (fun _ => rfl) ?_
        refine sw_v (i64_add rfl rfl (by omega)) trivial ?_
        rw [Nat.zero_add]
        refine sw_v (i64_add (q := 1) rfl rfl (by omega)) trivial ?_
        refine swV (fun _ => rfl) ?_
        refine swV (fun _ => rfl) ?_
        refine sw_v (u64_sub (p := 64) rfl rfl (by omega) (by decide)) trivial ?_
        refine sw_v (u64_shrE (64 - k) _ rfl rfl (by omega) rfl) (by omega) ?_
        refine sw_hv [] (iad_hs rfl rfl (AH.push_get _ _)) ⟨by omega, by omega, rfl⟩ ?_
        refine sw_hhn [] (st_dig rfl rfl (AH.push_get _ _) (by simp [ho])) ⟨rfl, by simp [digV_length, zeros_length, ho]; omega⟩ ?_
        rw [AH.push_set, set_at (by simp [ho]), List.append_assoc]
        refine SW.nil ?_
        show AWp _ _ _ _ _ _
        refine awp_sw ?_
        refine sw_v (i64_inc rfl rfl (by omega)) trivial ?_
        repeat first | refine swV (fun _ => rfl) ?_ | refine sw_l (fun _ => rfl) trivial ?_ | refine sw_ln (fun _ => rfl) ⟨rfl, leB rfl⟩ ?_ | refine sw_vg rfl (fun _ => rfl) trivial ?_ | refine sw_sk rfl rfl ?_
        refine SW.nil ?_
        refine ⟨⟨(i + 1, os ++ [c + ds[i] * 2 ^ k % B64], ds[i] / 2 ^ (64 - k)), by dsimp only; omega, by simp [ho], dos.append (Dig.cons hsum Dig.nil), sp2, hval⟩, by dsimp only; omega, le_sub (sub_cons rfl (sub_cons rfl (sub_cons rfl (sub_cons rfl (sub_cons rfl (sub_cons rfl (sub_cons rfl (sub_nil _))))))))⟩
      · have hk0 : k = 0 := by have := of_decide_eq_false h; omega
        have h0 : ds[i] / 2 ^ (64 - k) = 0 := by rw [hk0]; exact Nat.div_eq_of_lt hp
        show AWp _ _ _ _ _ _
        refine awp_sw ?_
        refine sw_v (i64_inc rfl rfl (by omega)) trivial ?_
        repeat first | refine swV (fun _ => rfl) ?_ | refine sw_l (fun _ => rfl) trivial ?_ | refine sw_ln (fun _ => rfl) ⟨rfl, leB rfl⟩ ?_ | refine sw_vg rfl (fun _ => rfl) trivial ?_ | refine sw_sk rfl rfl ?_
        refine SW.nil ?_
        rw [h0] at sp2 hval
        refine ⟨⟨(i + 1, os ++ [c + ds[i] * 2 ^ k % B64], 0), by dsimp only; omega, by simp [ho], dos.append (Dig.cons hsum Dig.nil), sp2, hval⟩, by dsimp only; omega, le_sub (sub_cons rfl (sub_cons rfl (sub_cons rfl (sub_cons rfl (sub_cons rfl (sub_cons rfl (sub_cons rfl (sub_nil _))))))))⟩
    · have hin : i = ds.length := by simp at h; omega
      subst hin
      refine awp_exit ?_
      show AWp _ _ _ _ _ _
      have hcb : c < B64 := Nat.lt_of_lt_of_le hc (by rw [← pow_split (show k ≤ 64 by omega)]; exact Nat.le_mul_of_pos_left _ (Nat.two_pow_pos _))
      rw [Nat.sub_self, show zeros 0 = [] from rfl]
      refine awp_le (le_sub (sub_cons (t := 5) rfl (sub_nil _))) ?_
      refine awp_le (le_frz1 (AH.push_get _ _) (by simp [digV_length, ho])) ?_
      obtain ⟨w, hw, fw⟩ := fn_right (os ++ [c]) (.vs (digV (os ++ [c])) (ds.length + 1)) (.inl (by simp [ho])) (by simp [ho]; omega) ((H.push (.cells (digV (os ++ [c])))).del H.next)
      refine awp_seq_sw ?_
      repeat first | refine swV (fun _ => rfl) ?_ | refine sw_l (fun _ => rfl) trivial ?_ | refine sw_ln (fun _ => rfl) ⟨rfl, leB rfl⟩ ?_ | refine sw_vg rfl (fun _ => rfl) trivial ?_ | refine sw_sk rfl rfl ?_
      refine sw_call rfl fw ?_
      repeat first | refine swV (fun _ => rfl) ?_ | refine sw_l (fun _ => rfl) trivial ?_ | refine sw_ln (fun _ => rfl) ⟨rfl, leB rfl⟩ ?_ | refine sw_vg rfl (fun _ => rfl) trivial ?_ | refine sw_sk rfl rfl ?_
      refine SW.nil (awp_ret ?_)
      refine ⟨.inr rfl, _, rfl, ⟨trim (os ++ [c]), hw, (dos.append (Dig.cons hcb Dig.nil)).trim, trim_trim _, ?_⟩, ?_⟩
      · rw [val_trim, e, List.take_length]
      · intro b hb
        dsimp only
        rw [AH.get_del, if_neg (by omega), AH.push_lt hb]
end Iso

/- Shifting magnitudes down by less than a word: mag.Down. -/
namespace Iso
open Go Go.Proofs
def sh (k : Nat) : List Nat → List Nat
  | [] => []
  | x :: r => (x / 2 ^ k + r.headD 0 * 2 ^ (64 - k) % B64) :: sh k r
theorem sh_length (k : Nat) (ds : List Nat) : (sh k ds).length = ds.length := by
  induction ds with
  | nil => rfl
  | cons x r ih => simp [sh, ih]
theorem div_part {x k : Nat} (hx : x < B64) (hk : k ≤ 64) : x / 2 ^ k < 2 ^ (64 - k) := by
  rw [Nat.div_lt_iff_lt_mul (Nat.two_pow_pos _), pow_split hk]; exact hx
theorem sh_dig {k : Nat} {ds : List Nat} (hk : k ≤ 64) (hd : Dig ds) : Dig (sh k ds) := by
  induction ds with
  | nil => exact Dig.nil
  | cons x r ih =>
    have hx := hd x (List.mem_cons_self ..)
    exact Dig.cons (sum_low (div_part hx hk) (by omega)) (ih fun e he => hd e (List.mem_cons_of_mem _ he))
theorem headD_mod (r : List Nat) (hd : Dig r) (m : Nat) : r.headD 0 * m % B64 = val r * m % B64 := by
  cases r with
  | nil => simp [val]
  | cons h r =>
    simp only [List.headD_cons, val]
    rw [Nat.add_mul, Nat.mul_assoc, Nat.add_mul_mod_self_left]
theorem val_sh {k : Nat} {ds : List Nat} (hk : k ≤ 64) (hd : Dig ds) : val (sh k ds) = val ds / 2 ^ k := by
  induction ds with
  | nil => simp [sh, val]
  | cons x r ih =>
    have hr : Dig r := fun e he => hd e (List.mem_cons_of_mem _ he)
    simp only [sh, val]
    rw [ih hr, headD_mod r hr]
    have h := Nat.div_add_mod (val r * 2 ^ (64 - k)) B64
    have e : val r * 2 ^ (64 - k) / B64 = val r / 2 ^ k := by
      rw [← pow_split hk, Nat.mul_comm (2 ^ (64 - k)) (2 ^ k), Nat.mul_div_mul_right _ _ (Nat.two_pow_pos _)]
    have e1 : (x + B64 * val r) / 2 ^ k = x / 2 ^ k + val r * 2 ^ (64 - k) := by
      rw [show B64 * val r = 2 ^ k * (val r * 2 ^ (64 - k)) by rw [← pow_split hk]; grind, Nat.add_mul_div_left _ _ (Nat.two_pow_pos k)]
    rw [e] at h
    rw [e1]
    omega
theorem sh_drop (k : Nat) (ds : List Nat) (i : Nat) : (sh k ds).drop i = sh k (ds.drop i) := by
  induction ds generalizing i with
  | nil => simp [sh]
  | cons x r ih => cases i with
    | zero => rfl
    | succ i => simp only [sh, List.drop_succ_cons, ih]
/-- 'mag.Down', by less than a word. -/
theorem fn_down (ds : List Nat) (v : V) (k : Nat) (hv : IsSl ds v) (hd : Dig ds) (ht : trim ds = ds) (hl : ds.length < 2 ^ 40) (hk : k < 64) (H : AH) :
    ∃ w, IsMag (val ds / 2 ^ k) w ∧ FN Tryz.prog 155 [v, .lit (.int .i64 (k : Int))] H w H := by
  suffices h : ∃ w H', FN Tryz.prog 155 [v, .lit (.int .i64 (k : Int))] H w H' ∧ (IsMag (val ds / 2 ^ k) w ∧ ∀ b, b < H.next → H'.get b = H.get b) by
    obtain ⟨w, H', h1, h2, h3⟩ := h
    obtain ⟨ds, hd, _⟩ := id h2
    exact ⟨w, h2, h1.quiet h3 (hd.under _)⟩
  obtain ⟨v', hv', fv⟩ := fn_right ds v hv (by omega) H
  rw [ht] at hv'
  refine fn_of cf155 (by simp) ?_
  show AWp _ _ _ ac155 _ _
  unfold ac155
  refine awp_seq_sw ?_
  repeat first | refine swV (fun _ => rfl) ?_ | refine sw_l (fun _ => rfl) trivial ?_ | refine sw_ln (fun _ => rfl) ⟨rfl, leB rfl⟩ ?_ | refine sw_vg rfl (fun _ => rfl) trivial ?_ | refine sw_sk rfl rfl ?_
  refine SW.nil (awp_seq_sw ?_)
  refine swV (fun _ => rfl) ?_
  refine sw_v (mnx_max (r := (k : Int)) rfl rfl (if_neg (by omega))) trivial ?_
  refine sw_v (mnx_min (r := (k : Int)) rfl rfl (if_neg (by omega))) trivial ?_
  repeat first | refine swV (fun _ => rfl) ?_ | refine sw_l (fun _ => rfl) trivial ?_ | refine sw_ln (fun _ => rfl) ⟨rfl, leB rfl⟩ ?_ | refine sw_vg rfl (fun _ => rfl) trivial ?_ | refine sw_sk rfl rfl ?_
  refine SW.nil (awp_seq_sw ?_)
  refine swV (fun _ => rfl) ?_
  refine sw_call rfl fv ?_
  repeat first | refine swV (fun _ => rfl) ?_ | refine sw_l (fun _ => rfl) trivial ?_ | refine sw_ln (fun _ => rfl) ⟨rfl, leB rfl⟩ ?_ | refine sw_vg rfl (fun _ => rfl) trivial ?_ | refine sw_sk rfl rfl ?_
  refine SW.nil (awp_seq_seq_sw ?_)
  refine swV (fun _ => rfl) ?_
  refine sw_v (i64_quo (q := 64) rfl rfl (by omega)) (by decide) ?_
  rw [show k / 64 = 0 by omega]
  refine swV (fun _ => rfl) ?_
  refine sw_v (len_sl rfl hv') trivial ?_
  repeat first | refine swV (fun _ => rfl) ?_ | refine sw_l (fun _ => rfl) trivial ?_ | refine sw_ln (fun _ => rfl) ⟨rfl, leB rfl⟩ ?_ | refine sw_vg rfl (fun _ => rfl) trivial ?_ | refine sw_sk rfl rfl ?_
  refine SW.nil ?_
  refine awp_cond rfl (fun h => ?_) fun h => awp_skip ?_
  · have h0 : ds = [] := by simpa using h
    subst h0
    refine awp_seq_sw ?_
    repeat first | refine swV (fun _ => rfl) ?_ | refine sw_l (fun _ => rfl) trivial ?_ | refine sw_ln (fun _ => rfl) ⟨rfl, leB rfl⟩ ?_ | refine sw_vg rfl (fun _ => rfl) trivial ?_ | refine sw_sk rfl rfl ?_
    refine SW.nil (awp_ret ?_)
    exact ⟨.inr rfl, _, rfl, ⟨[], .inr ⟨rfl, none, rfl⟩, Dig.nil, rfl, by simp [val]⟩, fun _ _ => rfl⟩
  · have hne : ds ≠ [] := by rintro rfl; simp at h
    obtain rfl := hv'.vs hne
    show AWp _ _ _ _ _ _
    refine awp_seq_sw ?_
    refine swV (fun _ => rfl) ?_
    refine swV (fun _ => rfl) ?_
    refine sw_v (i64_quo (q := 64) rfl rfl (by omega)) (by decide) ?_
    rw [show k / 64 = 0 by omega]
    refine sw_v (sls_0 rfl rfl) ⟨trivial, by omega, by omega⟩ ?_
    repeat first | refine swV (fun _ => rfl) ?_ | refine sw_l (fun _ => rfl) trivial ?_ | refine sw_ln (fun _ => rfl) ⟨rfl, leB rfl⟩ ?_ | refine sw_vg rfl (fun _ => rfl) trivial ?_ | refine sw_sk rfl rfl ?_
    refine SW.nil (awp_seq_sw ?_)
    refine swV (fun _ => rfl) ?_
    refine sw_v (i64_rem (q := 64) rfl rfl) (by decide) ?_
    rw [show k % 64 = k by omega]
    refine sw_v (cv_u64 rfl (by simp only [B64]; omega)) trivial ?_
    repeat first | refine swV (fun _ => rfl) ?_ | refine sw_l (fun _ => rfl) trivial ?_ | refine sw_ln (fun _ => rfl) ⟨rfl, leB rfl⟩ ?_ | refine sw_vg rfl (fun _ => rfl) trivial ?_ | refine sw_sk rfl rfl ?_
    refine SW.nil (awp_seq_sw ?_)
    refine swV (fun _ => rfl) ?_
    refine swV (fun _ => rfl) ?_
    refine sw_hh [] (mks_dig rfl rfl) ⟨by omega, by omega, by omega, by omega⟩ ?_
    repeat first | refine swV (fun _ => rfl) ?_ | refine sw_l (fun _ => rfl) trivial ?_ | refine sw_ln (fun _ => rfl) ⟨rfl, leB rfl⟩ ?_ | refine sw_vg rfl (fun _ => rfl) trivial ?_ | refine sw_sk rfl rfl ?_
    refine SW.nil (awp_seq_seq_sw ?_)
    repeat first | refine swV (fun _ => rfl) ?_ | refine sw_l (fun _ => rfl) trivial ?_ | refine sw_ln (fun _ => rfl) ⟨rfl, leB rfl⟩ ?_ | refine sw_vg rfl (fun _ => rfl) trivial ?_ | refine sw_sk rfl rfl ?_
    refine SW.nil (awp_block ?_)
    refine awp_loop (γ := { i : Nat // i ≤ ds.length })
      (fun p => ⟨[(0, .v (.vs (digV ds) ds.length)), (5, .v (.lit (.int .u64 (k : Int)))), (6, .v (.hs H.next 0 ds.length 1)), (29, .v (.vs (digV ds) ds.length)), (30, .v (.lit (.int .i64 ds.length))), (31, .v (.lit (.int .i64 (p.1 : Int))))], [],
        H.push (.cells (digV ((sh k ds).take p.1 ++ zeros (ds.length - p.1))))⟩) (fun p => ds.length - p.1) ⟨0, Nat.zero_le _⟩ ?_ ?_
    · dsimp only
      exact le_sub (sub_cons rfl (sub_cons rfl (sub_cons rfl (sub_cons rfl (sub_cons rfl (sub_cons rfl (sub_nil _)))))))
    rintro ⟨i, hi⟩
    dsimp only at hi ⊢
    refine awp_seq_sw ?_
    repeat first | refine swV (fun _ => rfl) ?_ | refine sw_l (fun _ => rfl) trivial ?_ | refine sw_ln (fun _ => rfl) ⟨rfl, leB rfl⟩ ?_ | refine sw_vg rfl (fun _ => rfl) trivial ?_ | refine sw_sk rfl rfl ?_
    refine SW.nil (awp_seq (awp_cond rfl (fun h => ?_) fun h => ?_))
    · have hlt : i < ds.length := by simpa using h
      refine awp_skip ?_
      have ha : ds.drop i = ds[i] :: ds.drop (i + 1) := (List.getElem_cons_drop hlt).symm
      have hp := hd ds[i] (List.getElem_mem hlt)
      have hz : zeros (ds.length - i) = 0 :: zeros (ds.length - (i + 1)) := by
        rw [show ds.length - i = (ds.length - (i + 1)) + 1 by omega, zeros_succ]
      have hs : (sh k ds).drop i = (ds[i] / 2 ^ k + (ds.drop (i + 1)).headD 0 * 2 ^ (64 - k) % B64) :: (sh k ds).drop (i + 1) := by
        rw [sh_drop, ha, sh_drop, sh]
      have ho : ((sh k ds).take i).length = i := by simp [sh_length]; omega
      have hts : (sh k ds).take (i + 1) = (sh k ds).take i ++ [ds[i] / 2 ^ k + (ds.drop (i + 1)).headD 0 * 2 ^ (64 - k) % B64] := by
        have hlt' : i < (sh k ds).length := by rw [sh_length]; exact hlt
        rw [take_succ hlt']
        have := (List.getElem_cons_drop hlt').symm
        rw [hs] at this
        injection this with this
        rw [this]
      refine awp_seq (awp_block ?_)
      refine awp_seq_sw ?_
      repeat first | refine swV (fun _ => rfl) ?_ | refine sw_l (fun _ => rfl) trivial ?_ | refine sw_ln (fun _ => rfl) ⟨rfl, leB rfl⟩ ?_ | refine sw_vg rfl (fun _ => rfl) trivial ?_ | refine sw_sk rfl rfl ?_
      refine sw_v (iad_dig _ _ rfl rfl ha) ⟨by omega, by omega⟩ ?_
      repeat first | refine swV (fun _ => rfl) ?_ | refine sw_l (fun _ => rfl) trivial ?_ | refine sw_ln (fun _ => rfl) ⟨rfl, leB rfl⟩ ?_ | refine sw_vg rfl (fun _ => rfl) trivial ?_ | refine sw_sk rfl rfl ?_
      refine SW.nil (awp_seq_sw ?_)
      refine swV (fun _ => rfl) ?_
      refine swV (fun _ => rfl) ?_
      refine swV (fun _ => rfl) ?_
      refine swV (fun _ => rfl) ?_
      refine sw_v (u64_shr k rfl rfl (by omega)) (by omega) ?_
      refine sw_hv [] (iad_hs rfl rfl (AH.push_get _ _)) ⟨by omega, by omega, rfl⟩ ?_
      refine sw_hhn [] (st_dig rfl rfl (AH.push_get _ _) (by rw [hz]; simp [ho])) ⟨rfl, by rw [hz]; simp [digV_length, zeros_length, ho]⟩ ?_
      rw [AH.push_set, hz, set_at ho]
      refine SW.nil (awp_seq_join (γ := Unit) (fun _ => ⟨[(0, .v (.vs (digV ds) ds.length)), (5, .v (.lit (.int .u64 (k : Int)))), (6, .v (.hs H.next 0 ds.length 1)), (29, .v (.vs (digV ds) ds.length)), (30, .v (.lit (.int .i64 ds.length))), (31, .v (.lit (.int .i64 (i : Int)))), (7, .v (.lit (.int .i64 (i : Int)))), (50, .v (.lit (.bool (decide (0 < k ∧ i + 1 < ds.length)))))], [],
        H.push (.cells (digV ((sh k ds).take i ++ [ds[i] / 2 ^ k] ++ zeros (ds.length - (i + 1)))))⟩) ?_ fun _ => ?_)
      · refine awp_sw ?_
        refine swV (fun _ => rfl) ?_
        refine swV (fun _ => rfl) ?_
        by_cases hk0 : 0 < k
        · rw [show decide ((k : Int) > 0) = true by simp; omega]
          refine swV (fun _ => rfl) ?_
          refine sw_vg rfl (fun _ => rfl) trivial ?_
          refine sw_vg rfl (i64_inc rfl rfl (by omega)) trivial ?_
          repeat first | refine swV (fun _ => rfl) ?_ | refine sw_l (fun _ => rfl) trivial ?_ | refine sw_ln (fun _ => rfl) ⟨rfl, leB rfl⟩ ?_ | refine sw_vg rfl (fun _ => rfl) trivial ?_ | refine sw_sk rfl rfl ?_
          refine SW.nil ⟨(), ?_⟩
          rw [show decide (0 < k ∧ i + 1 < ds.length) = decide (((i + 1 : Nat) : Int) < (ds.length : Int)) by
            rw [decide_eq_decide]; omega]
          exact le_sub (sub_cons rfl (sub_cons rfl (sub_cons rfl (sub_cons rfl (sub_cons rfl (sub_cons rfl (sub_cons rfl (sub_cons rfl (sub_nil _)))))))))
        · rw [show decide ((k : Int) > 0) = false by simp; omega]
          repeat first | refine swV (fun _ => rfl) ?_ | refine sw_l (fun _ => rfl) trivial ?_ | refine sw_ln (fun _ => rfl) ⟨rfl, leB rfl⟩ ?_ | refine sw_vg rfl (fun _ => rfl) trivial ?_ | refine sw_sk rfl rfl ?_
          refine SW.nil ⟨(), ?_⟩
          rw [show decide (0 < k ∧ i + 1 < ds.length) = false by simp; omega]
          exact le_sub (sub_cons rfl (sub_cons rfl (sub_cons rfl (sub_cons rfl (sub_cons rfl (sub_cons rfl (sub_cons rfl (sub_cons rfl (sub_nil _)))))))))
      refine awp_cond rfl (fun h => ?_) fun h => awp_skip ?_
      · obtain ⟨hk0, hi1⟩ := of_decide_eq_true h
        have hb : ds.drop (i + 1) = ds[i + 1] :: ds.drop (i + 1 + 1) := (List.getElem_cons_drop hi1).symm
        have hq := hd ds[i + 1] (List.getElem_mem hi1)
        rw [hb] at hts
        refine awp_rw hmix ?_
        refine rw_v' (fun _ => rfl) trivial ?_
        refine rw_v' (fun _ => rfl) trivial ?_
        refine rw_hv' [] (iad_hs rfl rfl (AH.push_get _ _)) ⟨by omega, by omega, rfl⟩ ?_
        refine rw_hv' [] (ld_dig (e := ds[i] / 2 ^ k) rfl (AH.push_get _ _) (by rw [List.append_assoc, List.getElem?_append_right (by omega), ho, Nat.sub_self]; rfl)) trivial ?_
        refine rw_v' (fun _ => rfl) trivial ?_
        refine rw_v' (fun _ => rfl) trivial ?_
        refine rw_v' (i64_inc rfl rfl (by omega)) trivial ?_
        refine rw_v' (iad_dig _ _ rfl rfl hb) ⟨by omega, by omega⟩ ?_
        refine rw_v' (fun _ => rfl) trivial ?_
        refine rw_v' (fun _ => rfl) trivial ?_
        refine rw_v' (u64_sub (p := 64) rfl rfl (by omega) (by decide)) trivial ?_
        refine rw_v' (u64_shlE (64 - k) _ rfl rfl (by omega) rfl) (by omega) ?_
        refine rw_v' (u64_orE (ds[i] / 2 ^ k + ds[i + 1] * 2 ^ (64 - k) % B64) rfl rfl (Nat.lt_of_le_of_lt (Nat.div_le_self _ _) hp) (Nat.mod_lt _ (by decide)) (or_low (div_part hp (by omega)) (by omega))) trivial ?_
        refine rw_hv' [] (iad_hs rfl rfl (AH.push_get _ _)) ⟨by omega, by omega, rfl⟩ ?_
        refine rw_hhn' [] (st_dig rfl rfl (AH.push_get _ _) (by simp [ho])) ⟨rfl, by simp [digV_length, zeros_length, ho]⟩ ?_
        refine RW.nil ⟨by kernel_rfl, ?_⟩
        rw [AH.push_set, List.append_assoc, List.singleton_append, set_at ho]
        show AWp _ _ _ _ _ _
        refine awp_sw ?_
        refine sw_v (i64_inc rfl rfl (by omega)) trivial ?_
        repeat first | refine swV (fun _ => rfl) ?_ | refine sw_l (fun _ => rfl) trivial ?_ | refine sw_ln (fun _ => rfl) ⟨rfl, leB rfl⟩ ?_ | refine sw_vg rfl (fun _ => rfl) trivial ?_ | refine sw_sk rfl rfl ?_
        refine SW.nil ?_
        refine ⟨⟨i + 1, by omega⟩, by dsimp only; omega, ?_⟩
        dsimp only
        rw [hts]
        exact le_sub (sub_cons rfl (sub_cons rfl (sub_cons rfl (sub_cons rfl (sub_cons rfl (sub_cons rfl (sub_nil _)))))))
      · have hn := of_decide_eq_false h
        have h0 : ds[i] / 2 ^ k + (ds.drop (i + 1)).headD 0 * 2 ^ (64 - k) % B64 = ds[i] / 2 ^ k := by
          rcases Nat.eq_zero_or_pos k with rfl | hk0
          · rw [show (2 : Nat) ^ (64 - 0) = B64 from rfl, Nat.mul_mod_left, Nat.add_zero]
          · rw [List.drop_eq_nil_of_le (by omega)]; simp
        rw [h0] at hts
        show AWp _ _ _ _ _ _
        refine awp_sw ?_
        refine sw_v (i64_inc rfl rfl (by omega)) trivial ?_
        repeat first | refine swV (fun _ => rfl) ?_ | refine sw_l (fun _ => rfl) trivial ?_ | refine sw_ln (fun _ => rfl) ⟨rfl, leB rfl⟩ ?_ | refine sw_vg rfl (fun _ => rfl) trivial ?_ | refine sw_sk rfl rfl ?_
        refine SW.nil ?_
        refine ⟨⟨i + 1, by omega⟩, by dsimp only; omega, ?_⟩
        dsimp only
        rw [hts]
        exact le_sub (sub_cons rfl (sub_cons rfl (sub_cons rfl (sub_cons rfl (sub_cons rfl (sub_cons rfl (sub_nil _)))))))
    · have hin : i = ds.length := by simp at h; omega
      subst hin
      refine awp_exit ?_
      show AWp _ _ _ _ _ _
      rw [Nat.sub_self, show zeros 0 = [] from rfl, List.append_nil, List.take_of_length_le (by rw [sh_length]; exact Nat.le_refl _)]
      refine awp_le (le_sub (sub_cons (t := 6) rfl (sub_nil _))) ?_
      refine awp_le (le_frz1 (AH.push_get _ _) (by simp [digV_length, sh_length])) ?_
      obtain ⟨w, hw, fw⟩ := fn_right (sh k ds) (.vs (digV (sh k ds)) ds.length) (.inl (by rw [sh_length])) (by rw [sh_length]; omega) ((H.push (.cells (digV (sh k ds)))).del H.next)
      refine awp_seq_sw ?_
      repeat first | refine swV (fun _ => rfl) ?_ | refine sw_l (fun _ => rfl) trivial ?_ | refine sw_ln (fun _ => rfl) ⟨rfl, leB rfl⟩ ?_ | refine sw_vg rfl (fun _ => rfl) trivial ?_ | refine sw_sk rfl rfl ?_
      refine sw_call rfl fw ?_
      repeat first | refine swV (fun _ => rfl) ?_ | refine sw_l (fun _ => rfl) trivial ?_ | refine sw_ln (fun _ => rfl) ⟨rfl, leB rfl⟩ ?_ | refine sw_vg rfl (fun _ => rfl) trivial ?_ | refine sw_sk rfl rfl ?_
      refine SW.nil (awp_ret ?_)
      refine ⟨.inr rfl, _, rfl, ⟨trim (sh k ds), hw, (sh_dig (by omega) hd).trim, trim_trim _, ?_⟩, ?_⟩
      · rw [val_trim, val_sh (by omega) hd]
      · intro b hb
        dsimp only
        rw [AH.get_del, if_neg (by omega), AH.push_lt hb]
end Iso

/- A digit of a quotient: mag.guess. -/
namespace Iso
open Go Go.Proofs
theorem AH.set_set (H : AH) (b : Nat) (k k' : Blk) : (H.set b k).set b k' = H.set b k' :=
  AH.ext rfl fun i => by simp only [AH.set]; split <;> rfl
theorem AH.set_get (H : AH) (b : Nat) (k : Blk) : (H.set b k).get b = some k := by simp [AH.set]
theorem AH.set_self {H : AH} {b : Nat} {k : Blk} (h : H.get b = some k) : H.set b k = H :=
  AH.ext rfl fun i => by
    simp only [AH.set]; split
    · rename_i e; subst e; exact h.symm
    · rfl
theorem AH.push_set_lt (H : AH) (k k' : Blk) {b : Nat} (h : b < H.next) : (H.push k).set b k' = (H.set b k').push k :=
  AH.ext rfl fun i => by simp only [AH.set, AH.push]; split <;> split <;> first | rfl | omega
section
variable {ev : Opd → T} {Lg : Nat → Option (List V)} {H : AH} {G : List Nat} {d : Option Nat} {x a i : Opd} {b n j o : Nat}
theorem iad_hso {k : IntKind} (hx : ev x = .v (.hs b o n 1)) (hi : ev i = .v (.lit (.int k (j : Int)))) :
    ∀ H, aopE [] d (.iad 1 x i) ev Lg H = some ⟨0 ≤ (j : Int) ∧ (j : Int) < n ∧ 1 = 1, .v (.ptr b (o + j)), {}⟩ := fun H => by
  simp only [aopE, hx, hi, Int.toNat_natCast, Nat.mul_one]
end
/-! What is passed over, told exactly: so that what hangs on it is passed over too. -/
section
variable {P : Program} {l : Option Nat} {N : Nat}
theorem good_skipV {dst : Option Nat} {i : I} {s : St} {g : Nat} {want b : Bool} (hg : s.A.get g = .v (.lit (.bool b))) (hne : b ≠ want) :
    Good P l N ⟨dst, some (g, want), i⟩ ⟨dst, .v (.lit undef), { tmps := [g] }, {}⟩ s := by
  intro ops k o ho hc hd t ht hwf
  obtain ⟨h1, h2, j, oj, h3, h6, h7⟩ := compCI_some hc
  refine ⟨hwf.any dst (.lit undef), fun E ρ β a w hs hN Q K hK => ?_⟩
  simp only [wpOpIn, ho]
  have hy := yield_of hs h6 h7 ((ht.A g (List.mem_cons_self ..)).symm.trans hg)
  rw [if_neg (by simp [Region.wanted, h3, hy, hne])]
  refine ⟨fun f hf => trivial, ?_⟩
  subst h2
  exact hK _ _ ρ β (hs.put o.dst (fun d h => by rw [hN]; exact hd d h) (by simp [TR, VR])) (by rw [put_size]; exact hN)
theorem good_skip2 {dst : Option Nat} {i : I} {s : St} {g : Nat} {want : Bool} (hg : s.A.get g = .v (.lit undef)) :
    Good P l N ⟨dst, some (g, want), i⟩ ⟨dst, .v (.lit undef), { tmps := [g] }, {}⟩ s := by
  intro ops k o ho hc hd t ht hwf
  obtain ⟨h1, h2, j, oj, h3, h6, h7⟩ := compCI_some hc
  refine ⟨hwf.any dst (.lit undef), fun E ρ β a w hs hN Q K hK => ?_⟩
  simp only [wpOpIn, ho]
  have hy : yielded ops a.tmps j = none := by
    have h8 := hs.tmps g
    rw [← ht.A g (List.mem_cons_self ..), hg] at h8
    simp only [TR, VR] at h8
    simp only [yielded, h6, h7, Option.bind_some]
    rw [Array.getD_eq_getD_getElem?] at h8
    cases hx : a.tmps[g]? with
    | none => rfl
    | some x => rw [hx] at h8; simp at h8; subst h8; rfl
  rw [if_neg (by simp [Region.wanted, h3, hy])]
  refine ⟨fun f hf => trivial, ?_⟩
  subst h2
  exact hK _ _ ρ β (hs.put o.dst (fun d h => by rw [hN]; exact hd d h) (by simp [TR, VR])) (by rw [put_size]; exact hN)
variable {A : Env} {L : Loc} {H : AH} {r : List CI} {i : I}
theorem sw_u {R : St → Prop} {d g : Nat} {want b : Bool} (hg : A.get g = .v (.lit (.bool b))) (hne : b = !want) (k : SW P l N r R ⟨(d, .v (.lit undef)) :: A, L, H⟩) : SW P l N (⟨some d, some (g, want), i⟩ :: r) R ⟨A, L, H⟩ :=
  SW.cons ⟨some d, .v (.lit undef), { tmps := [g] }, {}⟩ (good_skipV hg (by subst hne; cases want <;> decide)) k
theorem sw_uu {R : St → Prop} {d g : Nat} {want : Bool} (hg : A.get g = .v (.lit undef)) (k : SW P l N r R ⟨(d, .v (.lit undef)) :: A, L, H⟩) : SW P l N (⟨some d, some (g, want), i⟩ :: r) R ⟨A, L, H⟩ :=
  SW.cons ⟨some d, .v (.lit undef), { tmps := [g] }, {}⟩ (good_skip2 hg) k
end
/-- A window of a row. -/
theorem win_get {pre w post : List Nat} {o j : Nat} (h : pre.length = o) (hj : j < w.length) : (pre ++ w ++ post)[o + j]? = some w[j] := by
  rw [List.append_assoc, List.getElem?_append_right (by omega), show o + j - pre.length = j by omega, List.getElem?_append_left hj, List.getElem?_eq_getElem hj]
theorem guess_test {q v1 v2 r un u1 u2 : Nat} (e : q * v1 + r = un * B64 + u1) : q * (v1 * B64 + v2) ≤ (un * B64 + u1) * B64 + u2 ↔ q * v2 ≤ r * B64 + u2 := by
  rw [Nat.mul_add, ← Nat.mul_assoc, ← e, Nat.add_mul]
  generalize q * v1 * B64 = a
  generalize q * v2 = b
  omega
theorem hilo {m r u : Nat} (hu : u < B64) : (m / B64 < r ∨ (m / B64 = r ∧ m % B64 ≤ u)) ↔ m ≤ r * B64 + u := by
  simp only [B64] at *; omega
/-- 'mag.guess'. -/
theorem fn_guess (pre w post vs : List Nat) (b o n : Nat) (hn : 2 ≤ n) (hw : w.length = n + 1) (hv : vs.length = n) (ho : pre.length = o) (dw : Dig w) (dv : Dig vs) (hn2 : n < 2 ^ 40)
    (h1 : w[n] ≤ vs[n - 1]) (h0 : 0 < vs[n - 1]) (H : AH) (hb : H.get b = some (.cells (digV (pre ++ w ++ post)))) :
    ∃ q, q < B64 ∧ q * (vs[n - 1] * B64 + vs[n - 2]) ≤ (w[n] * B64 + w[n - 1]) * B64 + w[n - 2] ∧ (q = B64 - 1 ∨ (w[n] * B64 + w[n - 1]) * B64 + w[n - 2] < (q + 1) * (vs[n - 1] * B64 + vs[n - 2])) ∧
      FN Tryz.prog 152 [.hs b o (n + 1) 1, .vs (digV vs) n] H (.lit (.int .u64 (q : Int))) H := by
  suffices h : ∃ v' H', FN Tryz.prog 152 [.hs b o (n + 1) 1, .vs (digV vs) n] H v' H' ∧ ((∃ q : Nat, v' = .lit (.int .u64 (q : Int)) ∧ q < B64 ∧ q * (vs[n - 1] * B64 + vs[n - 2]) ≤ (w[n] * B64 + w[n - 1]) * B64 + w[n - 2] ∧ (q = B64 - 1 ∨ (w[n] * B64 + w[n - 1]) * B64 + w[n - 2] < (q + 1) * (vs[n - 1] * B64 + vs[n - 2]))) ∧ H' = H) by
    obtain ⟨v', H', h1, ⟨q, rfl, h2, h3, h4⟩, rfl⟩ := h
    exact ⟨q, h2, h3, h4, h1⟩
  have gn : (pre ++ w ++ post)[o + n]? = some w[n] := win_get ho (by omega)
  have g1 : (pre ++ w ++ post)[o + (n - 1)]? = some w[n - 1] := win_get ho (by omega)
  have g2 : (pre ++ w ++ post)[o + (n - 2)]? = some w[n - 2] := win_get ho (by omega)
  have dn : vs.drop (n - 1) = vs[n - 1] :: vs.drop (n - 1 + 1) := (List.getElem_cons_drop (by omega)).symm
  have d2 : vs.drop (n - 2) = vs[n - 2] :: vs.drop (n - 2 + 1) := (List.getElem_cons_drop (by omega)).symm
  have bv1 := dv vs[n - 1] (List.getElem_mem (by omega))
  have bv2 := dv vs[n - 2] (List.getElem_mem (by omega))
  have bun := dw w[n] (List.getElem_mem (by omega))
  have bu1 := dw w[n - 1] (List.getElem_mem (by omega))
  have bu2 := dw w[n - 2] (List.getElem_mem (by omega))
  generalize vs[n - 1] = v1 at *
  generalize vs[n - 2] = v2 at *
  generalize w[n] = un at *
  generalize w[n - 1] = u1 at *
  generalize w[n - 2] = u2 at *
  generalize hcs : pre ++ w ++ post = cs at *
  refine fn_of cf152 (by simp) ?_
  show AWp _ _ _ ac152 _ _
  unfold ac152
  refine awp_seq_sw ?_
  repeat first | refine swV (fun _ => rfl) ?_ | refine sw_l (fun _ => rfl) trivial ?_ | refine sw_ln (fun _ => rfl) ⟨rfl, leB rfl⟩ ?_ | refine sw_vg rfl (fun _ => rfl) trivial ?_ | refine sw_sk rfl rfl ?_
  refine SW.nil (awp_seq_sw ?_)
  repeat first | refine swV (fun _ => rfl) ?_ | refine sw_l (fun _ => rfl) trivial ?_ | refine sw_ln (fun _ => rfl) ⟨rfl, leB rfl⟩ ?_ | refine sw_vg rfl (fun _ => rfl) trivial ?_ | refine sw_sk rfl rfl ?_
  refine SW.nil (awp_seq_rw hmix ?_)
  refine rw_v' (fun _ => rfl) trivial ?_
  refine rw_v' (fun _ => rfl) trivial ?_
  refine rw_v' (i64_sub (q := 1) rfl rfl (by omega) (by omega)) trivial ?_
  refine rw_v' (iad_hso rfl rfl) ⟨by omega, by omega, rfl⟩ ?_
  refine rw_hv' [] (ld_dig (e := u1) rfl hb g1) trivial ?_
  repeat first | refine rw_v' (fun _ => rfl) trivial ?_ | refine rw_l' (fun _ => rfl) trivial ?_ | refine rw_ln' (fun _ => rfl) ⟨rfl, leB rfl⟩ ?_ | refine rw_vg' rfl (fun _ => rfl) trivial ?_ | refine rw_sk' rfl rfl ?_
  refine RW.nil ⟨by kernel_rfl, ?_⟩
  refine awp_seq_join (γ := { p : Nat × Nat // p.1 * v1 + p.2 = un * B64 + u1 ∧ p.2 < 2 * B64 ∧ p.1 < B64 ∧ (p.1 = B64 - 1 ∨ (un * B64 + u1) * B64 + u2 < (p.1 + 1) * (v1 * B64 + v2)) })
    (fun p => ⟨[(0, .v (.hs b o (n + 1) 1)), (1, .v (.vs (digV vs) n)), (5, .v (.lit (.int .i64 (n : Int)))), (6, .v (.lit (.int .u64 (p.1.1 : Int)))), (7, .v (.lit (.int .u64 ((p.1.2 % B64 : Nat) : Int)))), (8, .v (.lit (.int .u64 ((p.1.2 / B64 : Nat) : Int))))], [], H⟩) ?_ ?_
  · refine awp_seq_rw hmix ?_
    refine rw_v' (fun _ => rfl) trivial ?_
    refine rw_v' (fun _ => rfl) trivial ?_
    refine rw_v' (iad_hso rfl rfl) ⟨by omega, by omega, rfl⟩ ?_
    refine rw_hv' [] (ld_dig (e := un) rfl hb gn) trivial ?_
    refine rw_v' (fun _ => rfl) trivial ?_
    refine rw_v' (fun _ => rfl) trivial ?_
    refine rw_v' (i64_sub (q := 1) rfl rfl (by omega) (by omega)) trivial ?_
    refine rw_v' (iad_dig _ _ rfl rfl dn) ⟨by omega, by omega⟩ ?_
    repeat first | refine rw_v' (fun _ => rfl) trivial ?_ | refine rw_l' (fun _ => rfl) trivial ?_ | refine rw_ln' (fun _ => rfl) ⟨rfl, leB rfl⟩ ?_ | refine rw_vg' rfl (fun _ => rfl) trivial ?_ | refine rw_sk' rfl rfl ?_
    refine RW.nil ⟨by kernel_rfl, ?_⟩
    refine awp_cond rfl (fun h => ?_) fun h => ?_
    · have hlt : un < v1 := by have := of_decide_eq_true h; omega
      have hq : (un * B64 + u1) / v1 < B64 := by
        rw [Nat.div_lt_iff_lt_mul h0]
        have := Nat.mul_le_mul_right B64 (show un + 1 ≤ v1 by omega)
        rw [Nat.add_mul, Nat.mul_comm v1] at this
        omega
      have hm := Nat.mod_lt (un * B64 + u1) h0
      have hdm := Nat.div_add_mod (un * B64 + u1) v1
      rw [Nat.mul_comm v1] at hdm
      refine awp_rw hmix ?_
      refine rw_v' (fun _ => rfl) trivial ?_
      refine rw_v' (fun _ => rfl) trivial ?_
      refine rw_v' (iad_hso rfl rfl) ⟨by omega, by omega, rfl⟩ ?_
      refine rw_hv' [] (ld_dig (e := un) rfl hb gn) trivial ?_
      refine rw_v' (fun _ => rfl) trivial ?_
      refine rw_v' (fun _ => rfl) trivial ?_
      refine rw_v' (i64_sub (q := 1) rfl rfl (by omega) (by omega)) trivial ?_
      refine rw_v' (iad_hso rfl rfl) ⟨by omega, by omega, rfl⟩ ?_
      refine rw_hv' [] (ld_dig (e := u1) rfl hb g1) trivial ?_
      refine rw_v' (fun _ => rfl) trivial ?_
      refine rw_v' (fun _ => rfl) trivial ?_
      refine rw_v' (i64_sub (q := 1) rfl rfl (by omega) (by omega)) trivial ?_
      refine rw_v' (iad_dig _ _ rfl rfl dn) ⟨by omega, by omega⟩ ?_
      repeat first | refine rw_v' (fun _ => rfl) trivial ?_ | refine rw_l' (fun _ => rfl) trivial ?_ | refine rw_ln' (fun _ => rfl) ⟨rfl, leB rfl⟩ ?_ | refine rw_vg' rfl (fun _ => rfl) trivial ?_ | refine rw_sk' rfl rfl ?_
      refine rw_call' rfl (fn_div64w un u1 v1 hlt bu1 bv1 _) ?_
      repeat first | refine rw_v' (fun _ => rfl) trivial ?_ | refine rw_l' (fun _ => rfl) trivial ?_ | refine rw_ln' (fun _ => rfl) ⟨rfl, leB rfl⟩ ?_ | refine rw_vg' rfl (fun _ => rfl) trivial ?_ | refine rw_sk' rfl rfl ?_
      refine RW.nil ⟨by kernel_rfl, ?_⟩
      refine ⟨⟨((un * B64 + u1) / v1, (un * B64 + u1) % v1), hdm, by dsimp only; omega, hq, .inr ?_⟩, ?_⟩
      · dsimp only
        have h2 : un * B64 + u1 + 1 ≤ ((un * B64 + u1) / v1 + 1) * v1 := by rw [Nat.add_mul, Nat.one_mul]; omega
        have h3 := Nat.mul_le_mul_right B64 h2
        rw [Nat.add_mul, Nat.one_mul, Nat.mul_assoc ((un * B64 + u1) / v1 + 1)] at h3
        rw [Nat.mul_add ((un * B64 + u1) / v1 + 1)]
        omega
      · dsimp only
        rw [Nat.mod_eq_of_lt (Nat.lt_trans hm bv1), Nat.div_eq_of_lt (Nat.lt_trans hm bv1)]
        exact le_sub (sub_cons rfl (sub_cons rfl (sub_cons rfl (sub_cons rfl (sub_cons rfl (sub_cons rfl (sub_nil _)))))))
    · have he : un = v1 := by have := of_decide_eq_false h; omega
      subst he
      refine awp_sw ?_
      refine swV (fun _ => rfl) ?_
      refine swV (fun _ => rfl) ?_
      refine swV (fun _ => rfl) ?_
      refine sw_v (i64_sub (q := 1) rfl rfl (by omega) (by omega)) trivial ?_
      refine sw_v (iad_dig _ _ rfl rfl dn) ⟨by omega, by omega⟩ ?_
      repeat first | refine swV (fun _ => rfl) ?_ | refine sw_l (fun _ => rfl) trivial ?_ | refine sw_ln (fun _ => rfl) ⟨rfl, leB rfl⟩ ?_ | refine sw_vg rfl (fun _ => rfl) trivial ?_ | refine sw_sk rfl rfl ?_
      refine sw_v (adc_nat (r := 0) rfl rfl rfl) ⟨by omega, by omega, by omega, by omega⟩ ?_
      repeat first | refine swV (fun _ => rfl) ?_ | refine sw_l (fun _ => rfl) trivial ?_ | refine sw_ln (fun _ => rfl) ⟨rfl, leB rfl⟩ ?_ | refine sw_vg rfl (fun _ => rfl) trivial ?_ | refine sw_sk rfl rfl ?_
      refine SW.nil ?_
      refine ⟨⟨(B64 - 1, u1 + un + 0), ?_, by dsimp only; omega, by dsimp only [B64]; omega, .inl rfl⟩, ?_⟩
      · dsimp only [B64]; omega
      · exact le_sub (sub_cons rfl (sub_cons rfl (sub_cons rfl (sub_cons rfl (sub_cons rfl (sub_cons rfl (sub_nil _)))))))
  intro g0
  refine awp_seq_join (γ := { q : Nat // q < B64 ∧ q * (v1 * B64 + v2) ≤ (un * B64 + u1) * B64 + u2 ∧ (q = B64 - 1 ∨ (un * B64 + u1) * B64 + u2 < (q + 1) * (v1 * B64 + v2)) }) (fun q => ⟨[(6, .v (.lit (.int .u64 (q.1 : Int))))], [], H⟩) ?_ ?_
  · refine awp_block ?_
    refine awp_loop (γ := { p : Nat × Nat // p.1 * v1 + p.2 = un * B64 + u1 ∧ p.2 < 2 * B64 ∧ p.1 < B64 ∧ (p.1 = B64 - 1 ∨ (un * B64 + u1) * B64 + u2 < (p.1 + 1) * (v1 * B64 + v2)) })
      (fun p => ⟨[(0, .v (.hs b o (n + 1) 1)), (1, .v (.vs (digV vs) n)), (5, .v (.lit (.int .i64 (n : Int)))), (6, .v (.lit (.int .u64 (p.1.1 : Int)))), (7, .v (.lit (.int .u64 ((p.1.2 % B64 : Nat) : Int)))), (8, .v (.lit (.int .u64 ((p.1.2 / B64 : Nat) : Int))))], [], H⟩) (fun p => p.1.1) g0 (Le.refl _) ?_
    rintro ⟨⟨q, r⟩, e, hr, hq, hor⟩
    dsimp only at e hr hq hor ⊢
    refine awp_seq_seq_sw ?_
    repeat first | refine swV (fun _ => rfl) ?_ | refine sw_l (fun _ => rfl) trivial ?_ | refine sw_ln (fun _ => rfl) ⟨rfl, leB rfl⟩ ?_ | refine sw_vg rfl (fun _ => rfl) trivial ?_ | refine sw_sk rfl rfl ?_
    refine SW.nil ?_
    refine awp_cond rfl (fun h => awp_skip ?_) fun h => awp_exit ?_
    · have hr1 : r < B64 := by
        have h2 : ((r / B64 : Nat) : Int) = 0 := by simpa using h
        have := Nat.div_add_mod r B64
        have h3 := Nat.mod_lt r (show 0 < B64 by decide)
        rw [show r / B64 = 0 by omega] at this
        omega
      rw [Nat.mod_eq_of_lt hr1]
      refine awp_block (awp_seq_sw ?_)
      refine swV (fun _ => rfl) ?_
      refine swV (fun _ => rfl) ?_
      refine swV (fun _ => rfl) ?_
      refine sw_v (i64_sub (q := 2) rfl rfl (by omega) (by omega)) trivial ?_
      refine sw_v (iad_dig _ _ rfl rfl d2) ⟨by omega, by omega⟩ ?_
      repeat first | refine swV (fun _ => rfl) ?_ | refine sw_l (fun _ => rfl) trivial ?_ | refine sw_ln (fun _ => rfl) ⟨rfl, leB rfl⟩ ?_ | refine sw_vg rfl (fun _ => rfl) trivial ?_ | refine sw_sk rfl rfl ?_
      refine sw_call rfl (fn_mul64 q v2 hq bv2 _) ?_
      repeat first | refine swV (fun _ => rfl) ?_ | refine sw_l (fun _ => rfl) trivial ?_ | refine sw_ln (fun _ => rfl) ⟨rfl, leB rfl⟩ ?_ | refine sw_vg rfl (fun _ => rfl) trivial ?_ | refine sw_sk rfl rfl ?_
      refine SW.nil ?_
      refine awp_seq_join (γ := PLift (¬ q * v2 ≤ r * B64 + u2)) (fun _ => ⟨[(0, .v (.hs b o (n + 1) 1)), (1, .v (.vs (digV vs) n)), (5, .v (.lit (.int .i64 (n : Int)))), (6, .v (.lit (.int .u64 (q : Int)))), (7, .v (.lit (.int .u64 (r : Int))))], [], H⟩) ?_ fun ⟨hlt⟩ => ?_
      · refine awp_seq_sw ?_
        refine swV (fun _ => rfl) ?_
        refine swV (fun _ => rfl) ?_
        refine swV (fun _ => rfl) ?_
        by_cases hc : q * v2 / B64 < r
        · have hle := (hilo (m := q * v2) (r := r) bu2).1 (.inl hc)
          rw [show decide (((q * v2 / B64 : Nat) : Int) < (r : Int)) = true by simp only [decide_eq_true_eq]; omega]
          refine swV (fun _ => rfl) ?_
          repeat first | refine sw_u rfl rfl ?_ | refine sw_uu rfl ?_
          repeat first | refine swV (fun _ => rfl) ?_ | refine sw_l (fun _ => rfl) trivial ?_ | refine sw_ln (fun _ => rfl) ⟨rfl, leB rfl⟩ ?_ | refine sw_vg rfl (fun _ => rfl) trivial ?_ | refine sw_sk rfl rfl ?_
          refine SW.nil ?_
          refine awp_cond rfl (fun _ => awp_exit ?_) fun hx => by cases hx
          exact ⟨⟨q, hq, (guess_test e).2 hle, hor⟩, le_sub (sub_cons rfl (sub_nil _))⟩
        · rw [show decide (((q * v2 / B64 : Nat) : Int) < (r : Int)) = false by simp only [decide_eq_false_iff_not]; omega]
          refine swV (fun _ => rfl) ?_
          refine sw_vg rfl (fun _ => rfl) trivial ?_
          refine sw_vg rfl (fun _ => rfl) trivial ?_
          refine sw_vg rfl (fun _ => rfl) trivial ?_
          by_cases he : q * v2 / B64 = r
          · rw [show (((q * v2 / B64 : Nat) : Int) == (r : Int)) = true by rw [he]; simp]
            refine sw_vg rfl (fun _ => rfl) trivial ?_
            refine sw_vg rfl (fun _ => rfl) trivial ?_
            refine sw_vg rfl (fun _ => rfl) trivial ?_
            refine sw_vg rfl (fun _ => rfl) trivial ?_
            refine sw_vg rfl (i64_sub (q := 2) rfl rfl (by omega) (by omega)) trivial ?_
            refine sw_vg rfl (iad_hso rfl rfl) ⟨by omega, by omega, rfl⟩ ?_
            refine sw_hvg [] rfl (ld_dig (e := u2) rfl hb g2) trivial ?_
            repeat first | refine swV (fun _ => rfl) ?_ | refine sw_l (fun _ => rfl) trivial ?_ | refine sw_ln (fun _ => rfl) ⟨rfl, leB rfl⟩ ?_ | refine sw_vg rfl (fun _ => rfl) trivial ?_ | refine sw_sk rfl rfl ?_
            refine SW.nil ?_
            refine awp_cond rfl (fun hx => awp_exit ?_) fun hx => awp_skip ?_
            · have hx' := of_decide_eq_true hx
              have hle := (hilo (m := q * v2) (r := r) bu2).1 (.inr ⟨he, by omega⟩)
              exact ⟨⟨q, hq, (guess_test e).2 hle, hor⟩, le_sub (sub_cons rfl (sub_nil _))⟩
            · have hx' := of_decide_eq_false hx
              have hle := mt (hilo (m := q * v2) (r := r) bu2).2 (by rintro (h | h) <;> omega)
              exact ⟨⟨hle⟩, le_sub (sub_cons rfl (sub_cons rfl (sub_cons rfl (sub_cons rfl (sub_cons rfl (sub_nil _))))))⟩
          · rw [show (((q * v2 / B64 : Nat) : Int) == (r : Int)) = false by
              rw [beq_eq_false_iff_ne]; omega]
            repeat first | refine swV (fun _ => rfl) ?_ | refine sw_l (fun _ => rfl) trivial ?_ | refine sw_ln (fun _ => rfl) ⟨rfl, leB rfl⟩ ?_ | refine sw_vg rfl (fun _ => rfl) trivial ?_ | refine sw_sk rfl rfl ?_
            refine SW.nil ?_
            refine awp_cond rfl (fun hx => by cases hx) fun hx => awp_skip ?_
            have hle := mt (hilo (m := q * v2) (r := r) bu2).2 (by rintro (h | h) <;> omega)
            exact ⟨⟨hle⟩, le_sub (sub_cons rfl (sub_cons rfl (sub_cons rfl (sub_cons rfl (sub_cons rfl (sub_nil _))))))⟩
      · have hq0 : 0 < q := by
          rcases Nat.eq_zero_or_pos q with rfl | h
          · rw [Nat.zero_mul] at hlt; omega
          · exact h
        have hlt' := mt (guess_test (u2 := u2) (v2 := v2) e).1 hlt
        have e1 : (q - 1) * v1 + (r + v1) = un * B64 + u1 := by
          rw [← e]
          obtain ⟨k, rfl⟩ : ∃ k, q = k + 1 := ⟨q - 1, by omega⟩
          rw [Nat.add_mul, Nat.add_sub_cancel]; omega
        refine awp_seq_sw ?_
        refine swV (fun _ => rfl) ?_
        refine sw_v (u64_sub (q := 1) rfl rfl (by omega) hq) trivial ?_
        repeat first | refine swV (fun _ => rfl) ?_ | refine sw_l (fun _ => rfl) trivial ?_ | refine sw_ln (fun _ => rfl) ⟨rfl, leB rfl⟩ ?_ | refine sw_vg rfl (fun _ => rfl) trivial ?_ | refine sw_sk rfl rfl ?_
        refine SW.nil (awp_sw ?_)
        refine swV (fun _ => rfl) ?_
        refine swV (fun _ => rfl) ?_
        refine swV (fun _ => rfl) ?_
        refine sw_v (i64_sub (q := 1) rfl rfl (by omega) (by omega)) trivial ?_
        refine sw_v (iad_dig _ _ rfl rfl dn) ⟨by omega, by omega⟩ ?_
        repeat first | refine swV (fun _ => rfl) ?_ | refine sw_l (fun _ => rfl) trivial ?_ | refine sw_ln (fun _ => rfl) ⟨rfl, leB rfl⟩ ?_ | refine sw_vg rfl (fun _ => rfl) trivial ?_ | refine sw_sk rfl rfl ?_
        refine sw_v (adc_nat (r := 0) rfl rfl rfl) ⟨by omega, by omega, by omega, by omega⟩ ?_
        repeat first | refine swV (fun _ => rfl) ?_ | refine sw_l (fun _ => rfl) trivial ?_ | refine sw_ln (fun _ => rfl) ⟨rfl, leB rfl⟩ ?_ | refine sw_vg rfl (fun _ => rfl) trivial ?_ | refine sw_sk rfl rfl ?_
        refine SW.nil ?_
        refine ⟨⟨(q - 1, r + v1 + 0), e1, by dsimp only; omega, by dsimp only; omega, .inr ?_⟩, by dsimp only; omega, le_sub (sub_cons rfl (sub_cons rfl (sub_cons rfl (sub_cons rfl (sub_cons rfl (sub_cons rfl (sub_nil _)))))))⟩
        dsimp only
        rw [show q - 1 + 1 = q by omega]
        omega
    · have hr1 : ¬ r < B64 := fun hlt => by
        rw [Nat.div_eq_of_lt hlt] at h; simp at h
      have hle : q * v2 ≤ r * B64 + u2 := by
        have h2 := Nat.mul_le_mul (Nat.le_of_lt hq) (Nat.le_of_lt bv2)
        have h3 := Nat.mul_le_mul_right B64 (show B64 ≤ r by omega)
        omega
      exact ⟨⟨q, hq, (guess_test e).2 hle, hor⟩, le_sub (sub_cons rfl (sub_nil _))⟩
  rintro ⟨q, hq⟩
  refine awp_seq_sw ?_
  repeat first | refine swV (fun _ => rfl) ?_ | refine sw_l (fun _ => rfl) trivial ?_ | refine sw_ln (fun _ => rfl) ⟨rfl, leB rfl⟩ ?_ | refine sw_vg rfl (fun _ => rfl) trivial ?_ | refine sw_sk rfl rfl ?_
  refine SW.nil (awp_ret ?_)
  exact ⟨.inr rfl, _, rfl, ⟨q, rfl, hq⟩, rfl⟩
end Iso
