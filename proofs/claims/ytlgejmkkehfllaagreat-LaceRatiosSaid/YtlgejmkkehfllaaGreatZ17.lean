import Derived.Test.YtlgejmkkehfllaaGreatZ9
import Derived.Test.YtlgejmkkehfllaaGreatProg
/- The compiled code of functions. -/
namespace Iso
open Go Go.Proofs

def ac15 : AC := (.seq 
  (.reg false [] [⟨(some 1), none, (.box (.t 0))⟩,
    ⟨(some 2), none, (.new [(.lit (.bool false)), (.lit (.slice none 0 0)), (.lit (.slice none 0 0)), (.lit (.bool false)), (.lit (.slice none 0 0)), (.lit (.slice none 0 0))])⟩]) (.seq 
  (.reg true [[], [0], [1], [], [3], [4, 2], [2, 5], [6, 5, 0, 1, 2, 3, 4, 5, 6]] [⟨(some 3), none, (.fad 0 (.t 1))⟩,
    ⟨(some 4), none, (.ld false 1 (.t 3))⟩,
    ⟨(some 5), none, (.call 16 [(.t 4)])⟩,
    ⟨(some 6), none, (.fad 1 (.t 1))⟩,
    ⟨(some 7), none, (.ld false 1 (.t 6))⟩,
    ⟨(some 8), none, (.call 16 [(.t 7)])⟩,
    ⟨(some 9), none, (.bld [(.lit (.bool false)), (.lit (.slice none 0 0)), (.lit (.slice none 0 0)), (.lit (.bool false)), (.lit (.slice none 0 0)), (.lit (.slice none 0 0))] [(0, (3, (.t 5))), (3, (3, (.t 8)))])⟩,
    ⟨none, none, (.st 6 (.t 2) (.t 9))⟩]) .ret))
theorem cf15 : compF Tryz.prog 15 = some ⟨10, ac15, [(.cell 2 true 6)]⟩ := by kernel_rfl

def ac34 : AC := (.seq 
  (.reg false [] [⟨(some 2), none, (.box (.t 0))⟩,
    ⟨(some 3), none, (.box (.t 1))⟩,
    ⟨(some 4), none, (.new [(.lit (.bool false)), (.lit (.slice none 0 0)), (.lit (.slice none 0 0))])⟩]) (.seq 
  (.reg true [[], [0], [], [2], [1, 3], [], [5], [], [7], [6, 8, 4], [], [], [10, 4, 9, 0, 1, 2, 3, 4, 10, 11], [11, 9, 12, 0, 1, 2, 3, 4, 5, 6, 7, 8, 9, 10, 11, 12]] [⟨(some 7), none, (.fad 0 (.t 2))⟩,
    ⟨(some 8), none, (.ld true 3 (.t 7))⟩,
    ⟨(some 9), none, (.fad 0 (.t 3))⟩,
    ⟨(some 10), none, (.ld true 3 (.t 9))⟩,
    ⟨(some 11), none, (.call 22 [(.t 8), (.t 10)])⟩,
    ⟨(some 12), none, (.fad 3 (.t 2))⟩,
    ⟨(some 13), none, (.ld true 3 (.t 12))⟩,
    ⟨(some 14), none, (.fad 3 (.t 3))⟩,
    ⟨(some 15), none, (.ld true 3 (.t 14))⟩,
    ⟨(some 16), none, (.call 22 [(.t 13), (.t 15)])⟩,
    ⟨(some 5), none, (.new [(.lit (.bool false)), (.lit (.slice none 0 0)), (.lit (.slice none 0 0))])⟩,
    ⟨(some 6), none, (.new [(.lit (.bool false)), (.lit (.slice none 0 0)), (.lit (.slice none 0 0))])⟩,
    ⟨none, none, (.st 3 (.t 5) (.t 11))⟩,
    ⟨none, none, (.st 3 (.t 6) (.t 16))⟩]) (.seq 
  (.reg true [[], [], [0, 1], [], [], [3, 4, 2], [2, 5, 5], [6, 6, 0, 1, 2, 3, 4, 5, 6]] [⟨(some 17), none, (.ld true 3 (.t 5))⟩,
    ⟨(some 18), none, (.ld true 3 (.t 5))⟩,
    ⟨(some 19), none, (.call 24 [(.t 17), (.t 18)])⟩,
    ⟨(some 20), none, (.ld true 3 (.t 6))⟩,
    ⟨(some 21), none, (.ld true 3 (.t 6))⟩,
    ⟨(some 22), none, (.call 24 [(.t 20), (.t 21)])⟩,
    ⟨(some 23), none, (.call 26 [(.t 19), (.t 22)])⟩,
    ⟨none, none, (.st 3 (.t 4) (.t 23))⟩]) .ret)))
theorem cf34 : compF Tryz.prog 34 = some ⟨24, ac34, [(.cell 4 true 3)]⟩ := by kernel_rfl

def ac14 : AC := (.seq 
  (.reg false [] [⟨(some 4), none, (.box (.t 0))⟩,
    ⟨(some 5), none, (.box (.t 1))⟩,
    ⟨(some 6), none, (.box (.t 2))⟩,
    ⟨(some 7), none, (.box (.t 3))⟩,
    ⟨(some 8), none, (.new [(.lit (.bool false)), (.lit (.slice none 0 0)), (.lit (.slice none 0 0))])⟩]) (.seq 
  (.reg true [[], [0], [], [2], [1, 3], [4], [], [6], [], [8], [7, 9], [10, 5], [], [], [12, 5, 11, 0, 1, 2, 3, 4, 5, 12, 13], [13, 11, 14, 0, 1, 2, 3, 4, 5, 6, 7, 8, 9, 10, 11, 12, 13, 14]] [⟨(some 14), none, (.fad 0 (.t 5))⟩,
    ⟨(some 15), none, (.ld false 1 (.t 14))⟩,
    ⟨(some 16), none, (.fad 0 (.t 4))⟩,
    ⟨(some 17), none, (.ld false 1 (.t 16))⟩,
    ⟨(some 18), none, (.bin .sub (.t 15) (.t 17))⟩,
    ⟨(some 19), none, (.call 16 [(.t 18)])⟩,
    ⟨(some 20), none, (.fad 1 (.t 5))⟩,
    ⟨(some 21), none, (.ld false 1 (.t 20))⟩,
    ⟨(some 22), none, (.fad 1 (.t 4))⟩,
    ⟨(some 23), none, (.ld false 1 (.t 22))⟩,
    ⟨(some 24), none, (.bin .sub (.t 21) (.t 23))⟩,
    ⟨(some 25), none, (.call 16 [(.t 24)])⟩,
    ⟨(some 9), none, (.new [(.lit (.bool false)), (.lit (.slice none 0 0)), (.lit (.slice none 0 0))])⟩,
    ⟨(some 10), none, (.new [(.lit (.bool false)), (.lit (.slice none 0 0)), (.lit (.slice none 0 0))])⟩,
    ⟨none, none, (.st 3 (.t 9) (.t 19))⟩,
    ⟨none, none, (.st 3 (.t 10) (.t 25))⟩]) (.seq 
  (.reg true [[], [], [1], [], [3], [2, 4], [0, 5, 5], [], [], [8], [], [10], [9, 11, 6], [7, 12, 12], [6, 13, 13], [], [15, 14, 14, 0, 1, 2, 3, 4, 5, 6, 7, 8, 9, 10, 11, 12, 13, 14, 15]] [⟨(some 26), none, (.ld true 3 (.t 9))⟩,
    ⟨(some 27), none, (.fad 3 (.t 7))⟩,
    ⟨(some 28), none, (.ld true 3 (.t 27))⟩,
    ⟨(some 29), none, (.fad 3 (.t 6))⟩,
    ⟨(some 30), none, (.ld true 3 (.t 29))⟩,
    ⟨(some 31), none, (.call 22 [(.t 28), (.t 30)])⟩,
    ⟨(some 32), none, (.call 24 [(.t 26), (.t 31)])⟩,
    ⟨(some 33), none, (.ld true 3 (.t 10))⟩,
    ⟨(some 34), none, (.fad 0 (.t 7))⟩,
    ⟨(some 35), none, (.ld true 3 (.t 34))⟩,
    ⟨(some 36), none, (.fad 0 (.t 6))⟩,
    ⟨(some 37), none, (.ld true 3 (.t 36))⟩,
    ⟨(some 38), none, (.call 22 [(.t 35), (.t 37)])⟩,
    ⟨(some 39), none, (.call 24 [(.t 33), (.t 38)])⟩,
    ⟨(some 40), none, (.call 22 [(.t 32), (.t 39)])⟩,
    ⟨(some 11), none, (.new [(.lit (.bool false)), (.lit (.slice none 0 0)), (.lit (.slice none 0 0))])⟩,
    ⟨none, none, (.st 3 (.t 11) (.t 40))⟩]) (.seq 
  (.reg true [[], [], [1], [], [3, 2], [2, 4, 4], [0, 5, 5], [6], [7], [7], [], [10, 8, 6, 0, 1, 2, 3, 4, 5, 6, 7, 8, 10], [9, 11, 0, 1, 2, 3, 4, 5, 6, 7, 8, 9, 10, 11]] [⟨(some 42), none, (.ld true 3 (.t 11))⟩,
    ⟨(some 43), none, (.ld true 2 (.t 4))⟩,
    ⟨(some 44), none, (.call 15 [(.t 43)])⟩,
    ⟨(some 45), none, (.ld true 2 (.t 5))⟩,
    ⟨(some 46), none, (.call 15 [(.t 45)])⟩,
    ⟨(some 47), none, (.call 34 [(.t 44), (.t 46)])⟩,
    ⟨(some 48), none, (.call 33 [(.t 42), (.t 47)])⟩,
    ⟨(some 41), none, (.mv (.t 48))⟩,
    ⟨(some 49), none, (.ext (.t 41) 0)⟩,
    ⟨(some 50), none, (.ext (.t 41) 1)⟩,
    ⟨(some 12), none, (.new [(.lit (.bool false)), (.lit (.slice none 0 0)), (.lit (.slice none 0 0))])⟩,
    ⟨none, none, (.st 3 (.t 12) (.t 49))⟩,
    ⟨(some 13), none, (.mv (.t 50))⟩]) (.seq 
  (.reg false [] [⟨(some 51), none, (.ld true 3 (.t 12))⟩,
    ⟨none, none, (.st 3 (.t 8) (.t 51))⟩]) .ret)))))
theorem cf14 : compF Tryz.prog 14 = some ⟨52, ac14, [(.cell 8 true 3)]⟩ := by kernel_rfl

def ac3 : AC := (.seq 
  (.reg false [] [⟨(some 3), none, (.box (.t 0))⟩,
    ⟨(some 4), none, (.box (.t 1))⟩,
    ⟨(some 5), none, (.box (.t 2))⟩,
    ⟨(some 6), none, (.mv (.k (.lit (.bool false))))⟩]) (.seq (.seq 
  (.reg false [] [⟨(some 13), none, (.call 12 [])⟩,
    ⟨(some 14), none, (.un .not (.t 13))⟩]) (.cond (.t 14) (.seq 
  (.reg false [] [⟨(some 6), none, (.mv (.k (.lit (.bool false))))⟩]) .ret) .skip)) (.seq 
  (.reg true [[], [0], [1], [], [3], [4], [2, 5], [], [7], [8], [], [10], [11], [9, 12], [6, 0, 1, 2, 3, 4, 5, 6], [13, 14, 0, 1, 2, 3, 4, 5, 6, 7, 8, 9, 10, 11, 12, 13, 14]] [⟨(some 15), none, (.fad 0 (.t 3))⟩,
    ⟨(some 16), none, (.ld false 1 (.t 15))⟩,
    ⟨(some 17), none, (.bin .and (.t 16) (.k (.lit (.int .i64 255))))⟩,
    ⟨(some 18), none, (.fad 1 (.t 3))⟩,
    ⟨(some 19), none, (.ld false 1 (.t 18))⟩,
    ⟨(some 20), none, (.bin .and (.t 19) (.k (.lit (.int .i64 255))))⟩,
    ⟨(some 21), none, (.bld [(.lit (.int .i64 0)), (.lit (.int .i64 0))] [(0, (1, (.t 17))), (1, (1, (.t 20)))])⟩,
    ⟨(some 22), none, (.fad 0 (.t 4))⟩,
    ⟨(some 23), none, (.ld false 1 (.t 22))⟩,
    ⟨(some 24), none, (.bin .and (.t 23) (.k (.lit (.int .i64 255))))⟩,
    ⟨(some 25), none, (.fad 1 (.t 4))⟩,
    ⟨(some 26), none, (.ld false 1 (.t 25))⟩,
    ⟨(some 27), none, (.bin .and (.t 26) (.k (.lit (.int .i64 255))))⟩,
    ⟨(some 28), none, (.bld [(.lit (.int .i64 0)), (.lit (.int .i64 0))] [(0, (1, (.t 24))), (1, (1, (.t 27)))])⟩,
    ⟨none, none, (.st 2 (.t 3) (.t 21))⟩,
    ⟨none, none, (.st 2 (.t 4) (.t 28))⟩]) (.seq (.seq 
  (.reg false [] [⟨(some 29), none, (.ld true 2 (.t 3))⟩,
    ⟨(some 30), none, (.ld true 2 (.t 4))⟩,
    ⟨(some 31), none, (.eqc false [true, true] (.t 29) (.t 30))⟩]) (.cond (.t 31) (.seq 
  (.reg false [] [⟨(some 6), none, (.mv (.k (.lit (.bool true))))⟩]) .ret) .skip)) (.seq 
  (.reg true [[], [0], [1], [2], [], [4], [5], [6], [3, 0, 1, 2, 3], [7, 8, 0, 1, 2, 3, 4, 5, 6, 7, 8]] [⟨(some 32), none, (.iaa 2 1 (.t 5) (.k (.lit (.int .i64 0))))⟩,
    ⟨(some 33), none, (.ld false 1 (.t 32))⟩,
    ⟨(some 34), none, (.bin .and (.t 33) (.k (.lit (.int .i64 255))))⟩,
    ⟨(some 35), none, (.bin .sub (.t 34) (.k (.lit (.int .i64 100))))⟩,
    ⟨(some 36), none, (.iaa 2 1 (.t 5) (.k (.lit (.int .i64 1))))⟩,
    ⟨(some 37), none, (.ld false 1 (.t 36))⟩,
    ⟨(some 38), none, (.bin .and (.t 37) (.k (.lit (.int .i64 255))))⟩,
    ⟨(some 39), none, (.bin .sub (.t 38) (.k (.lit (.int .i64 100))))⟩,
    ⟨(some 7), none, (.mv (.t 35))⟩,
    ⟨(some 8), none, (.mv (.t 39))⟩]) (.seq 
  (.reg true [[], [0], [], [2], [1, 3], [], [5], [], [7], [6, 8], [4, 0, 1, 2, 3, 4], [9, 10, 0, 1, 2, 3, 4, 5, 6, 7, 8, 9, 10]] [⟨(some 40), none, (.fad 0 (.t 4))⟩,
    ⟨(some 41), none, (.ld false 1 (.t 40))⟩,
    ⟨(some 42), none, (.fad 0 (.t 3))⟩,
    ⟨(some 43), none, (.ld false 1 (.t 42))⟩,
    ⟨(some 44), none, (.bin .sub (.t 41) (.t 43))⟩,
    ⟨(some 45), none, (.fad 1 (.t 4))⟩,
    ⟨(some 46), none, (.ld false 1 (.t 45))⟩,
    ⟨(some 47), none, (.fad 1 (.t 3))⟩,
    ⟨(some 48), none, (.ld false 1 (.t 47))⟩,
    ⟨(some 49), none, (.bin .sub (.t 46) (.t 48))⟩,
    ⟨(some 9), none, (.mv (.t 44))⟩,
    ⟨(some 10), none, (.mv (.t 49))⟩]) (.seq 
  (.reg false [] [⟨(some 50), none, (.fad 0 (.t 3))⟩,
    ⟨(some 51), none, (.ld false 1 (.t 50))⟩,
    ⟨(some 52), none, (.mv (.t 8))⟩,
    ⟨(some 53), none, (.mv (.t 9))⟩,
    ⟨(some 54), none, (.bin .mul (.t 52) (.t 53))⟩,
    ⟨(some 55), none, (.bin .add (.t 51) (.t 54))⟩,
    ⟨(some 56), none, (.fad 1 (.t 3))⟩,
    ⟨(some 57), none, (.ld false 1 (.t 56))⟩,
    ⟨(some 58), none, (.mv (.t 8))⟩,
    ⟨(some 59), none, (.mv (.t 10))⟩,
    ⟨(some 60), none, (.bin .mul (.t 58) (.t 59))⟩,
    ⟨(some 61), none, (.bin .add (.t 57) (.t 60))⟩,
    ⟨(some 62), none, (.bld [(.lit (.int .i64 0)), (.lit (.int .i64 0))] [(0, (1, (.t 55))), (1, (1, (.t 61)))])⟩,
    ⟨(some 11), none, (.new [(.lit (.int .i64 0)), (.lit (.int .i64 0))])⟩,
    ⟨none, none, (.st 2 (.t 11) (.t 62))⟩]) (.seq 
  (.reg false [] [⟨(some 63), none, (.fad 0 (.t 11))⟩,
    ⟨(some 64), none, (.ld false 1 (.t 63))⟩,
    ⟨(some 65), none, (.mv (.t 7))⟩,
    ⟨(some 66), none, (.mv (.t 10))⟩,
    ⟨(some 67), none, (.bin .mul (.t 65) (.t 66))⟩,
    ⟨(some 68), none, (.bin .sub (.t 64) (.t 67))⟩,
    ⟨(some 69), none, (.fad 1 (.t 11))⟩,
    ⟨(some 70), none, (.ld false 1 (.t 69))⟩,
    ⟨(some 71), none, (.mv (.t 7))⟩,
    ⟨(some 72), none, (.mv (.t 9))⟩,
    ⟨(some 73), none, (.bin .mul (.t 71) (.t 72))⟩,
    ⟨(some 74), none, (.bin .add (.t 70) (.t 73))⟩,
    ⟨(some 75), none, (.bld [(.lit (.int .i64 0)), (.lit (.int .i64 0))] [(0, (1, (.t 68))), (1, (1, (.t 74)))])⟩,
    ⟨(some 12), none, (.new [(.lit (.int .i64 0)), (.lit (.int .i64 0))])⟩,
    ⟨none, none, (.st 2 (.t 12) (.t 75))⟩]) (.seq 
  (.reg true [[], [], [], [2], [], [4, 3], [0, 1, 3, 5, 5], [], [7, 6], [6, 8, 8], [9, 9], [10], [10], [10], [13, 10, 10], [10], [15, 14, 10], [11, 12, 14, 16, 16, 10], [10], [18, 10], [19, 17, 10], [17, 20, 20, 10], [10, 21], [22, 21, 0, 1, 2, 3, 4, 5, 6, 7, 8, 9, 10, 11, 12, 13, 14, 15, 16, 17, 18, 19, 20, 21, 22]] [⟨(some 76), none, (.ld true 2 (.t 3))⟩,
    ⟨(some 77), none, (.ld true 2 (.t 4))⟩,
    ⟨(some 78), none, (.ld true 2 (.t 11))⟩,
    ⟨(some 79), none, (.call 15 [(.t 78)])⟩,
    ⟨(some 80), none, (.ld true 2 (.t 12))⟩,
    ⟨(some 81), none, (.call 15 [(.t 80)])⟩,
    ⟨(some 82), none, (.call 14 [(.t 76), (.t 77), (.t 79), (.t 81)])⟩,
    ⟨(some 83), none, (.mv (.t 7))⟩,
    ⟨(some 84), none, (.call 16 [(.t 83)])⟩,
    ⟨(some 85), none, (.call 13 [(.t 82), (.t 84)])⟩,
    ⟨(some 86), none, (.mv (.t 85))⟩,
    ⟨(some 87), (some (86, true)), (.ld true 2 (.t 3))⟩,
    ⟨(some 88), (some (86, true)), (.ld true 2 (.t 4))⟩,
    ⟨(some 89), (some (86, true)), (.ld true 2 (.t 12))⟩,
    ⟨(some 90), (some (86, true)), (.call 15 [(.t 89)])⟩,
    ⟨(some 91), (some (86, true)), (.ld true 2 (.t 11))⟩,
    ⟨(some 92), (some (86, true)), (.call 15 [(.t 91)])⟩,
    ⟨(some 93), (some (86, true)), (.call 14 [(.t 87), (.t 88), (.t 90), (.t 92)])⟩,
    ⟨(some 94), (some (86, true)), (.mv (.t 7))⟩,
    ⟨(some 95), (some (86, true)), (.un .neg (.t 94))⟩,
    ⟨(some 96), (some (86, true)), (.call 16 [(.t 95)])⟩,
    ⟨(some 97), (some (86, true)), (.call 13 [(.t 93), (.t 96)])⟩,
    ⟨(some 98), none, (.pick (.t 86) (.t 97) (.k (.lit (.bool false))))⟩,
    ⟨(some 6), none, (.mv (.t 98))⟩]) .ret)))))))))
theorem cf3 : compF Tryz.prog 3 = some ⟨99, ac3, [(.tmp 6)]⟩ := by kernel_rfl

end Iso

/- Comparing fractions up to factors; points; squares of distances; ratios: of whole coordinates. -/
namespace Iso
open Go Go.Proofs

theorem cmpZ_scale {x y : Int} {k : Nat} (hk : 0 < k) : cmpZ (x * k) (y * k) = cmpZ x y := by
  have hk' : (0 : Int) < k := by omega
  have h1 : x * (k : Int) < y * k ↔ x < y := ⟨fun h => Int.lt_of_mul_lt_mul_right h (by omega), fun h => Int.mul_lt_mul_of_pos_right h hk'⟩
  have h2 : y * (k : Int) < x * k ↔ y < x := ⟨fun h => Int.lt_of_mul_lt_mul_right h (by omega), fun h => Int.mul_lt_mul_of_pos_right h hk'⟩
  simp only [cmpZ]
  by_cases a : x < y
  · simp [a, h1.2 a]
  · by_cases b : y < x
    · have a' : ¬ x * (k : Int) < y * k := fun h => a (h1.1 h)
      simp only [if_neg a, if_neg a', gt_iff_lt, if_pos b, if_pos (h2.2 b)]
    · have a' : ¬ x * (k : Int) < y * k := fun h => a (h1.1 h)
      have b' : ¬ y * (k : Int) < x * k := fun h => b (h2.1 h)
      simp only [if_neg a, if_neg a', gt_iff_lt, if_neg b, if_neg b']

/-- 'frac.Cmp', of whatever the fractions stand for. -/
theorem fn_fcmp {n1 n2 : Int} {d1 d2 : Nat} {u v : V} (a1 a2 e1 e2 : Nat) (hu : IsFrac n1 d1 u) (hv : IsFrac n2 d2 v) (b1 : n1.natAbs ≤ a1) (b2 : n2.natAbs ≤ a2) (c1 : d1 ≤ e1) (c2 : d2 ≤ e2)
    (l1 : a1 < B64) (l2 : a2 < B64) (l3 : e1 < B64) (l4 : e2 < B64) (l5 : a1 * e2 < B64) (l6 : a2 * e1 < B64) (H : AH) : FN Tryz.prog 43 [u, v] H (.lit (.int .i64 (cmpZ (n1 * d2) (n2 * d1)))) H := by
  obtain ⟨m1, f1, g1, hg1, p1, q1, r1, _, s1, t1⟩ := hu.open
  obtain ⟨m2, f2, g2, hg2, p2, q2, r2, _, s2, t2⟩ := hv.open
  have k1 := mul_bound (y := (f2 : Int)) (Nat.le_trans s1 b1) (by rw [Int.natAbs_natCast]; exact Nat.le_trans t2 c2)
  have k2 := mul_bound (y := (f1 : Int)) (Nat.le_trans s2 b2) (by rw [Int.natAbs_natCast]; exact Nat.le_trans t1 c1)
  have h := fn_fracCmp m1 m2 f1 f2 u v r1 r2 (by omega) (by omega) (by omega) (by omega) (by omega) (by omega) H
  have e1 : n1 * (d2 : Int) = m1 * f2 * ((g1 * g2 : Nat) : Int) := by rw [p1, q2, Int.natCast_mul, Int.natCast_mul]; grind
  have e2 : n2 * (d1 : Int) = m2 * f1 * ((g1 * g2 : Nat) : Int) := by rw [p2, q1, Int.natCast_mul, Int.natCast_mul]; grind
  rw [e1, e2, cmpZ_scale (Nat.mul_pos hg1 hg2)]
  exact h

theorem cmpZ_eq (x y : Int) : (cmpZ x y == 0) = decide (x = y) := by
  simp only [cmpZ]
  by_cases a : x < y
  · have : x ≠ y := by omega
    simp [a, this]
  · by_cases b : x > y
    · have : x ≠ y := by omega
      simp only [if_neg a, if_pos b]
      simp [this]
    · have : x = y := by omega
      simp [this]

/-- 'frac.Same'. -/
theorem fn_fsame {n1 n2 : Int} {d1 d2 : Nat} {u v : V} (a1 a2 e1 e2 : Nat) (hu : IsFrac n1 d1 u) (hv : IsFrac n2 d2 v) (b1 : n1.natAbs ≤ a1) (b2 : n2.natAbs ≤ a2) (c1 : d1 ≤ e1) (c2 : d2 ≤ e2)
    (l1 : a1 < B64) (l2 : a2 < B64) (l3 : e1 < B64) (l4 : e2 < B64) (l5 : a1 * e2 < B64) (l6 : a2 * e1 < B64) (H : AH) : FN Tryz.prog 13 [u, v] H (.lit (.bool (decide (n1 * d2 = n2 * d1)))) H := by
  suffices h : ∃ v' H', FN Tryz.prog 13 [u, v] H v' H' ∧ (v' = .lit (.bool (decide (n1 * d2 = n2 * d1))) ∧ H' = H) by
    obtain ⟨v', H', h1, rfl, rfl⟩ := h; exact h1
  have f1 := fn_fcmp a1 a2 e1 e2 hu hv b1 b2 c1 c2 l1 l2 l3 l4 l5 l6 H
  obtain ⟨_, _, _, rfl, iu⟩ := hu.three
  obtain ⟨_, _, _, rfl, iv⟩ := hv.three
  refine fn_of cf13 (by simp) ?_
  show AWp _ _ _ ac13 _ _
  unfold ac13
  refine awp_seq_sw ?_
  refine sw_l (box_agg rfl iu rfl) trivial ?_
  refine sw_l (box_agg rfl iv rfl) trivial ?_
  repeat first | refine sw_v (fun _ => rfl) trivial ?_ | refine sw_l (fun _ => rfl) trivial ?_ | refine sw_ln (fun _ => rfl) ⟨rfl, Nat.le_of_ble_eq_true rfl⟩ ?_ | refine sw_vg rfl (fun _ => rfl) trivial ?_ | refine sw_sk rfl rfl ?_
  refine SW.nil (awp_seq_sw ?_)
  refine sw_v (ld_agg [_, _, _] rfl rfl rfl (Nat.le_of_ble_eq_true rfl)) trivial ?_
  refine sw_v (ld_agg [_, _, _] rfl rfl rfl (Nat.le_of_ble_eq_true rfl)) trivial ?_
  refine sw_call rfl f1 ?_
  repeat first | refine sw_v (fun _ => rfl) trivial ?_ | refine sw_l (fun _ => rfl) trivial ?_ | refine sw_ln (fun _ => rfl) ⟨rfl, Nat.le_of_ble_eq_true rfl⟩ ?_ | refine sw_vg rfl (fun _ => rfl) trivial ?_ | refine sw_sk rfl rfl ?_
  refine SW.nil (awp_ret ?_)
  exact ⟨.inr rfl, _, rfl, by rw [← cmpZ_eq]; rfl, rfl⟩

theorem Imms.append {a b : List V} (h : Imms a) (k : Imms b) : Imms (a ++ b) := fun H => by
  have h1 := h H
  have h2 := k H
  clear h k
  induction a with
  | nil => exact h2
  | cons x r ih =>
    simp only [V.ones, Bool.and_eq_true] at h1
    simp only [List.cons_append, V.ones, Bool.and_eq_true]
    exact ⟨h1.1, ih h1.2⟩

/-- A point of two fractions. -/
def IsSpot (nx : Int) (dx : Nat) (ny : Int) (dy : Nat) (w : V) : Prop := ∃ a b c d e f, w = .agg [a, b, c, d, e, f] ∧ IsFrac nx dx (.agg [a, b, c]) ∧ IsFrac ny dy (.agg [d, e, f])
theorem IsSpot.imms {nx ny : Int} {dx dy : Nat} {w : V} (h : IsSpot nx dx ny dy w) : ∃ a b c d e f, w = .agg [a, b, c, d, e, f] ∧ IsFrac nx dx (.agg [a, b, c]) ∧ IsFrac ny dy (.agg [d, e, f]) ∧ Imms [a, b, c] ∧ Imms [d, e, f] ∧ Imms [a, b, c, d, e, f] := by
  obtain ⟨a, b, c, d, e, f, rfl, h1, h2⟩ := h
  obtain ⟨_, _, _, e1, i1⟩ := h1.three
  obtain ⟨_, _, _, e2, i2⟩ := h2.three
  cases e1; cases e2
  exact ⟨a, b, c, d, e, f, rfl, h1, h2, i1, i2, Imms.append i1 i2⟩

/-- 'spot.Of'. -/
theorem fn_spotOf (x y : Int) (h1 : -9223372036854775808 ≤ x) (h2 : x < 9223372036854775808) (h3 : -9223372036854775808 ≤ y) (h4 : y < 9223372036854775808) (H : AH) :
    ∃ w, IsSpot x 1 y 1 w ∧ FN Tryz.prog 15 [.agg [.lit (.int .i64 x), .lit (.int .i64 y)]] H w H := by
  refine fn_ex ?_
  obtain ⟨p, hp, fp⟩ := fn_fracOf x h1 h2 H
  obtain ⟨q, hq, fq⟩ := fn_fracOf y h3 h4 H
  obtain ⟨a, b, c, rfl, ip⟩ := hp.three
  obtain ⟨d, e, f, rfl, iq⟩ := hq.three
  refine fn_of cf15 (by simp) ?_
  show AWp _ _ _ ac15 _ _
  unfold ac15
  refine awp_seq_sw ?_
  repeat first | refine sw_v (fun _ => rfl) trivial ?_ | refine sw_l (fun _ => rfl) trivial ?_ | refine sw_ln (fun _ => rfl) ⟨rfl, Nat.le_of_ble_eq_true rfl⟩ ?_ | refine sw_vg rfl (fun _ => rfl) trivial ?_ | refine sw_sk rfl rfl ?_
  refine SW.nil (awp_seq_rw hmix ?_)
  repeat first | refine rw_v' (fun _ => rfl) trivial ?_ | refine rw_l' (fun _ => rfl) trivial ?_ | refine rw_ln' (fun _ => rfl) ⟨rfl, Nat.le_of_ble_eq_true rfl⟩ ?_ | refine rw_vg' rfl (fun _ => rfl) trivial ?_ | refine rw_sk' rfl rfl ?_
  refine rw_call' rfl fp ?_
  repeat first | refine rw_v' (fun _ => rfl) trivial ?_ | refine rw_l' (fun _ => rfl) trivial ?_ | refine rw_ln' (fun _ => rfl) ⟨rfl, Nat.le_of_ble_eq_true rfl⟩ ?_ | refine rw_vg' rfl (fun _ => rfl) trivial ?_ | refine rw_sk' rfl rfl ?_
  refine rw_call' rfl fq ?_
  refine rw_v' (bld_of [_, _, _, _, _, _] (fill_cons (l := [_, _, _]) rfl ip.cells ⟨rfl, Nat.le_of_ble_eq_true rfl⟩ rfl (fill_cons (l := [_, _, _]) rfl iq.cells ⟨rfl, Nat.le_of_ble_eq_true rfl⟩ rfl fill_nil))) trivial ?_
  refine rw_ln' (st_agg [_, _, _, _, _, _] rfl rfl (Imms.append ip iq) rfl rfl) ⟨rfl, Nat.le_of_ble_eq_true rfl⟩ ?_
  refine RW.nil ⟨rfl, awp_ret ?_⟩
  exact ⟨.inr rfl, _, rfl, ⟨a, b, c, d, e, f, rfl, hp, hq⟩, rfl⟩

end Iso
