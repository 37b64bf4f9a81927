import Derived.Test.YtlgejmkkehfllaaGreatZ6
import Derived.Test.YtlgejmkkehfllaaGreatProg
/- The code of functions, as the runner wants it. -/
namespace Iso
open Go Go.Proofs

/-- isohyet/isohyetlaw15.fit -/
def fe12 : FE := ⟨63, (.seq (.reg [] [⟨(some 0), none, (.mv (.k (.lit (.bool false))))⟩])
  (.seq (.reg [] [⟨(some 6), none, (.bld [(.lit (.int .i64 0)), (.lit (.int .i64 0))] [])⟩,
    ⟨(some 7), none, (.bld [(.lit (.int .i64 0)), (.lit (.int .i64 0))] [(0, (1, (.k (.lit (.int .i64 2)))))])⟩,
    ⟨(some 8), none, (.bld [(.lit (.int .i64 0)), (.lit (.int .i64 0))] [(0, (1, (.k (.lit (.int .i64 2))))), (1, (1, (.k (.lit (.int .i64 2)))))])⟩,
    ⟨(some 9), none, (.bld [(.lit (.int .i64 0)), (.lit (.int .i64 0))] [(1, (1, (.k (.lit (.int .i64 2)))))])⟩,
    ⟨(some 10), none, (.bsl 4 2 [(.lit (.int .i64 0)), (.lit (.int .i64 0))] [(0, (2, (.t 6))), (2, (2, (.t 7))), (4, (2, (.t 8))), (6, (2, (.t 9)))])⟩,
    ⟨(some 11), none, (.call 39 [(.t 10)])⟩,
    ⟨(some 5), none, (.mv (.t 11))⟩,
    ⟨(some 12), none, (.ext (.t 5) 0)⟩,
    ⟨(some 13), none, (.ext (.t 5) 1)⟩,
    ⟨(some 1), none, (.mv (.t 12))⟩,
    ⟨(some 2), none, (.mv (.t 13))⟩])
  (.seq (.seq (.reg [] [⟨(some 14), none, (.mv (.t 2))⟩,
    ⟨(some 15), none, (.un .not (.t 14))⟩,
    ⟨(some 16), none, (.mv (.t 15))⟩,
    ⟨(some 17), (some (16, false)), (.mv (.t 1))⟩,
    ⟨(some 18), (some (16, false)), (.eqn false (.t 17) (.k (.lit (.pointer none))))⟩,
    ⟨(some 19), none, (.pick (.t 16) (.k (.lit (.bool true))) (.t 18))⟩])
  (.cond (.t 19) (.seq (.reg [] [⟨(some 0), none, (.mv (.k (.lit (.bool false))))⟩])
  .ret) .skip))
  (.seq (.reg [3] [⟨(some 20), none, (.bld [(.lit (.int .i64 0)), (.lit (.int .i64 0))] [(0, (1, (.k (.lit (.int .i64 1))))), (1, (1, (.k (.lit (.int .i64 1)))))])⟩,
    ⟨(some 3), none, (.new [(.lit (.int .i64 0)), (.lit (.int .i64 0))])⟩,
    ⟨none, none, (.st 2 (.t 3) (.t 20))⟩])
  (.seq (.regd [] [[], [], [], [], [], [], [4, 5], [2, 3, 6, 6], [0, 1, 7, 7], [8, 8, 0, 1, 2, 3, 4, 5, 6, 7, 8]] [(⟨(some 21), none, (.mv (.t 1))⟩, ⟨[], none, false, false⟩),
    (⟨(some 22), none, (.ld true 2 (.t 3))⟩, ⟨[3], none, false, false⟩),
    (⟨(some 23), none, (.mv (.t 1))⟩, ⟨[], none, false, false⟩),
    (⟨(some 24), none, (.ld true 2 (.t 3))⟩, ⟨[3], none, false, false⟩),
    (⟨(some 25), none, (.mv (.t 1))⟩, ⟨[], none, false, false⟩),
    (⟨(some 26), none, (.ld true 2 (.t 3))⟩, ⟨[3], none, false, false⟩),
    (⟨(some 27), none, (.call 40 [(.t 25), (.t 26)])⟩, ⟨[], none, true, false⟩),
    (⟨(some 28), none, (.call 19 [(.t 23), (.t 24), (.t 27)])⟩, ⟨[], none, true, false⟩),
    (⟨(some 29), none, (.call 20 [(.t 21), (.t 22), (.t 28)])⟩, ⟨[], none, true, false⟩),
    (⟨(some 4), none, (.mv (.t 29))⟩, ⟨[], none, false, false⟩)])
  (.seq (.regd [] [[], [0], [1], [2], [3], [4, 3], [5, 3], [6, 3], [3], [8, 3], [9, 3], [10, 3], [7, 11, 3, 3], [3, 12], [13, 12], [14], [15, 14], [16, 14], [17, 14], [18, 14, 14], [19, 14], [14, 20], [21, 19], [22], [22], [22], [25, 22, 22], [22], [27, 26, 22], [23, 24, 26, 28, 28, 22], [29, 22], [29, 30, 30, 22], [22, 31], [32, 31, 0, 1, 2, 3, 4, 5, 6, 7, 8, 9, 10, 11, 12, 13, 14, 15, 16, 17, 18, 19, 20, 21, 22, 23, 24, 25, 26, 27, 28, 29, 30, 31, 32]] [(⟨(some 30), none, (.mv (.t 4))⟩, ⟨[], none, false, false⟩),
    (⟨(some 31), none, (.len (.t 30))⟩, ⟨[], none, false, false⟩),
    (⟨(some 32), none, (.bin .eql (.t 31) (.k (.lit (.int .i64 4))))⟩, ⟨[], none, false, false⟩),
    (⟨(some 33), none, (.mv (.t 32))⟩, ⟨[], none, false, false⟩),
    (⟨(some 34), (some (33, true)), (.mv (.t 4))⟩, ⟨[], none, false, false⟩),
    (⟨(some 35), (some (33, true)), (.iad 4 (.t 34) (.k (.lit (.int .i64 0))))⟩, ⟨[], none, false, false⟩),
    (⟨(some 36), (some (33, true)), (.fad 1 (.t 35))⟩, ⟨[], none, false, false⟩),
    (⟨(some 37), (some (33, true)), (.ld true 3 (.t 36))⟩, ⟨[], none, true, false⟩),
    (⟨(some 38), (some (33, true)), (.mv (.t 4))⟩, ⟨[], none, false, false⟩),
    (⟨(some 39), (some (33, true)), (.iad 4 (.t 38) (.k (.lit (.int .i64 3))))⟩, ⟨[], none, false, false⟩),
    (⟨(some 40), (some (33, true)), (.fad 1 (.t 39))⟩, ⟨[], none, false, false⟩),
    (⟨(some 41), (some (33, true)), (.ld true 3 (.t 40))⟩, ⟨[], none, true, false⟩),
    (⟨(some 42), (some (33, true)), (.call 13 [(.t 37), (.t 41)])⟩, ⟨[], none, true, false⟩),
    (⟨(some 43), none, (.pick (.t 33) (.t 42) (.k (.lit (.bool false))))⟩, ⟨[], none, false, false⟩),
    (⟨(some 44), none, (.mv (.t 43))⟩, ⟨[], none, false, false⟩),
    (⟨(some 45), (some (44, true)), (.mv (.t 4))⟩, ⟨[], none, false, false⟩),
    (⟨(some 46), (some (44, true)), (.iad 4 (.t 45) (.k (.lit (.int .i64 1))))⟩, ⟨[], none, false, false⟩),
    (⟨(some 47), (some (44, true)), (.fad 1 (.t 46))⟩, ⟨[], none, false, false⟩),
    (⟨(some 48), (some (44, true)), (.ld true 3 (.t 47))⟩, ⟨[], none, true, false⟩),
    (⟨(some 49), (some (44, true)), (.call 27 [(.t 48)])⟩, ⟨[], none, true, false⟩),
    (⟨(some 50), (some (44, true)), (.bin .gtr (.t 49) (.k (.lit (.int .i64 0))))⟩, ⟨[], none, false, false⟩),
    (⟨(some 51), none, (.pick (.t 44) (.t 50) (.k (.lit (.bool false))))⟩, ⟨[], none, false, false⟩),
    (⟨(some 52), none, (.mv (.t 51))⟩, ⟨[], none, false, false⟩),
    (⟨(some 53), (some (52, true)), (.bld [(.lit (.int .i64 0)), (.lit (.int .i64 0))] [])⟩, ⟨[], none, false, false⟩),
    (⟨(some 54), (some (52, true)), (.bld [(.lit (.int .i64 0)), (.lit (.int .i64 0))] [(0, (1, (.k (.lit (.int .i64 2)))))])⟩, ⟨[], none, false, false⟩),
    (⟨(some 55), (some (52, true)), (.bld [(.lit (.int .i64 0)), (.lit (.int .i64 0))] [(0, (1, (.k (.lit (.int .i64 1)))))])⟩, ⟨[], none, false, false⟩),
    (⟨(some 56), (some (52, true)), (.call 15 [(.t 55)])⟩, ⟨[], none, true, false⟩),
    (⟨(some 57), (some (52, true)), (.bld [(.lit (.int .i64 0)), (.lit (.int .i64 0))] [(0, (1, (.k (.lit (.int .i64 1))))), (1, (1, (.k (.lit (.int .i64 4)))))])⟩, ⟨[], none, false, false⟩),
    (⟨(some 58), (some (52, true)), (.call 15 [(.t 57)])⟩, ⟨[], none, true, false⟩),
    (⟨(some 59), (some (52, true)), (.call 14 [(.t 53), (.t 54), (.t 56), (.t 58)])⟩, ⟨[], none, true, false⟩),
    (⟨(some 60), (some (52, true)), (.call 16 [(.k (.lit (.int .i64 2)))])⟩, ⟨[], none, true, false⟩),
    (⟨(some 61), (some (52, true)), (.call 13 [(.t 59), (.t 60)])⟩, ⟨[], none, true, false⟩),
    (⟨(some 62), none, (.pick (.t 52) (.t 61) (.k (.lit (.bool false))))⟩, ⟨[], none, false, false⟩),
    (⟨(some 0), none, (.mv (.t 62))⟩, ⟨[], none, false, false⟩)])
  .ret)))))), [(.tmp 0)], [], true⟩
theorem fo12 : compF Tryz.prog 12 = some ⟨fe12.N, fe12.xc.er, fe12.rs⟩ := by kernel_rfl
theorem ox12 : okX fe12.xc = true := by kernel_rfl
theorem hb12 : hasBody Tryz.prog 12 = true := by kernel_rfl
theorem fk12 : FEOK Tryz.prog 12 fe12 := ⟨fo12, ox12, hb12⟩

/-- isohyet/frac.Same -/
def fe13 : FE := ⟨9, (.seq (.reg [2, 3] [⟨(some 2), none, (.box (.t 0))⟩,
    ⟨(some 3), none, (.box (.t 1))⟩,
    ⟨(some 4), none, (.mv (.k (.lit (.bool false))))⟩])
  (.seq (.reg [] [⟨(some 5), none, (.ld true 3 (.t 2))⟩,
    ⟨(some 6), none, (.ld true 3 (.t 3))⟩,
    ⟨(some 7), none, (.call 43 [(.t 5), (.t 6)])⟩,
    ⟨(some 8), none, (.bin .eql (.t 7) (.k (.lit (.int .i64 0))))⟩,
    ⟨(some 4), none, (.mv (.t 8))⟩])
  .ret)), [(.tmp 4)], [], true⟩
theorem fo13 : compF Tryz.prog 13 = some ⟨fe13.N, fe13.xc.er, fe13.rs⟩ := by kernel_rfl
theorem ox13 : okX fe13.xc = true := by kernel_rfl
theorem hb13 : hasBody Tryz.prog 13 = true := by kernel_rfl
theorem fk13 : FEOK Tryz.prog 13 fe13 := ⟨fo13, ox13, hb13⟩

/-- isohyet/lace.Ratio -/
def fe14 : FE := ⟨52, (.seq (.reg [4, 5, 6, 7, 8] [⟨(some 4), none, (.box (.t 0))⟩,
    ⟨(some 5), none, (.box (.t 1))⟩,
    ⟨(some 6), none, (.box (.t 2))⟩,
    ⟨(some 7), none, (.box (.t 3))⟩,
    ⟨(some 8), none, (.new [(.lit (.bool false)), (.lit (.slice none 0 0)), (.lit (.slice none 0 0))])⟩])
  (.seq (.regd [9, 10] [[], [0], [], [2], [1, 3], [4], [], [6], [], [8], [7, 9], [10, 5], [], [], [12, 5, 11, 0, 1, 2, 3, 4, 5, 12, 13], [13, 11, 14, 0, 1, 2, 3, 4, 5, 6, 7, 8, 9, 10, 11, 12, 13, 14]] [(⟨(some 14), none, (.fad 0 (.t 5))⟩, ⟨[5], none, false, false⟩),
    (⟨(some 15), none, (.ld false 1 (.t 14))⟩, ⟨[5], none, false, false⟩),
    (⟨(some 16), none, (.fad 0 (.t 4))⟩, ⟨[4], none, false, false⟩),
    (⟨(some 17), none, (.ld false 1 (.t 16))⟩, ⟨[4], none, false, false⟩),
    (⟨(some 18), none, (.bin .sub (.t 15) (.t 17))⟩, ⟨[], none, false, false⟩),
    (⟨(some 19), none, (.call 16 [(.t 18)])⟩, ⟨[], none, true, false⟩),
    (⟨(some 20), none, (.fad 1 (.t 5))⟩, ⟨[5], none, false, false⟩),
    (⟨(some 21), none, (.ld false 1 (.t 20))⟩, ⟨[5], none, false, false⟩),
    (⟨(some 22), none, (.fad 1 (.t 4))⟩, ⟨[4], none, false, false⟩),
    (⟨(some 23), none, (.ld false 1 (.t 22))⟩, ⟨[4], none, false, false⟩),
    (⟨(some 24), none, (.bin .sub (.t 21) (.t 23))⟩, ⟨[], none, false, false⟩),
    (⟨(some 25), none, (.call 16 [(.t 24)])⟩, ⟨[], none, true, false⟩),
    (⟨(some 9), none, (.new [(.lit (.bool false)), (.lit (.slice none 0 0)), (.lit (.slice none 0 0))])⟩, ⟨[9], some 9, false, false⟩),
    (⟨(some 10), none, (.new [(.lit (.bool false)), (.lit (.slice none 0 0)), (.lit (.slice none 0 0))])⟩, ⟨[10], some 10, false, false⟩),
    (⟨none, none, (.st 3 (.t 9) (.t 19))⟩, ⟨[9], some 9, false, false⟩),
    (⟨none, none, (.st 3 (.t 10) (.t 25))⟩, ⟨[10], some 10, false, false⟩)])
  (.seq (.regd [11] [[], [], [1], [], [3], [2, 4], [0, 5, 5], [], [], [8], [], [10], [9, 11, 6], [7, 12, 12], [6, 13, 13], [], [15, 14, 14, 0, 1, 2, 3, 4, 5, 6, 7, 8, 9, 10, 11, 12, 13, 14, 15]] [(⟨(some 26), none, (.ld true 3 (.t 9))⟩, ⟨[9], none, false, false⟩),
    (⟨(some 27), none, (.fad 3 (.t 7))⟩, ⟨[7], none, false, false⟩),
    (⟨(some 28), none, (.ld true 3 (.t 27))⟩, ⟨[7], none, false, false⟩),
    (⟨(some 29), none, (.fad 3 (.t 6))⟩, ⟨[6], none, false, false⟩),
    (⟨(some 30), none, (.ld true 3 (.t 29))⟩, ⟨[6], none, false, false⟩),
    (⟨(some 31), none, (.call 22 [(.t 28), (.t 30)])⟩, ⟨[], none, true, false⟩),
    (⟨(some 32), none, (.call 24 [(.t 26), (.t 31)])⟩, ⟨[], none, true, false⟩),
    (⟨(some 33), none, (.ld true 3 (.t 10))⟩, ⟨[10], none, false, false⟩),
    (⟨(some 34), none, (.fad 0 (.t 7))⟩, ⟨[7], none, false, false⟩),
    (⟨(some 35), none, (.ld true 3 (.t 34))⟩, ⟨[7], none, false, false⟩),
    (⟨(some 36), none, (.fad 0 (.t 6))⟩, ⟨[6], none, false, false⟩),
    (⟨(some 37), none, (.ld true 3 (.t 36))⟩, ⟨[6], none, false, false⟩),
    (⟨(some 38), none, (.call 22 [(.t 35), (.t 37)])⟩, ⟨[], none, true, false⟩),
    (⟨(some 39), none, (.call 24 [(.t 33), (.t 38)])⟩, ⟨[], none, true, false⟩),
    (⟨(some 40), none, (.call 22 [(.t 32), (.t 39)])⟩, ⟨[], none, true, false⟩),
    (⟨(some 11), none, (.new [(.lit (.bool false)), (.lit (.slice none 0 0)), (.lit (.slice none 0 0))])⟩, ⟨[11], some 11, false, false⟩),
    (⟨none, none, (.st 3 (.t 11) (.t 40))⟩, ⟨[11], some 11, false, false⟩)])
  (.seq (.regd [12] [[], [], [1], [], [3, 2], [2, 4, 4], [0, 5, 5], [6], [7], [7], [], [10, 8, 6, 0, 1, 2, 3, 4, 5, 6, 7, 8, 10], [9, 11, 0, 1, 2, 3, 4, 5, 6, 7, 8, 9, 10, 11]] [(⟨(some 42), none, (.ld true 3 (.t 11))⟩, ⟨[11], none, false, false⟩),
    (⟨(some 43), none, (.ld true 2 (.t 4))⟩, ⟨[4], none, false, false⟩),
    (⟨(some 44), none, (.call 15 [(.t 43)])⟩, ⟨[], none, true, false⟩),
    (⟨(some 45), none, (.ld true 2 (.t 5))⟩, ⟨[5], none, false, false⟩),
    (⟨(some 46), none, (.call 15 [(.t 45)])⟩, ⟨[], none, true, false⟩),
    (⟨(some 47), none, (.call 34 [(.t 44), (.t 46)])⟩, ⟨[], none, true, false⟩),
    (⟨(some 48), none, (.call 33 [(.t 42), (.t 47)])⟩, ⟨[], none, true, false⟩),
    (⟨(some 41), none, (.mv (.t 48))⟩, ⟨[], none, false, false⟩),
    (⟨(some 49), none, (.ext (.t 41) 0)⟩, ⟨[], none, false, false⟩),
    (⟨(some 50), none, (.ext (.t 41) 1)⟩, ⟨[], none, false, false⟩),
    (⟨(some 12), none, (.new [(.lit (.bool false)), (.lit (.slice none 0 0)), (.lit (.slice none 0 0))])⟩, ⟨[12], some 12, false, false⟩),
    (⟨none, none, (.st 3 (.t 12) (.t 49))⟩, ⟨[12], some 12, false, false⟩),
    (⟨(some 13), none, (.mv (.t 50))⟩, ⟨[], none, false, false⟩)])
  (.seq (.reg [] [⟨(some 51), none, (.ld true 3 (.t 12))⟩,
    ⟨none, none, (.st 3 (.t 8) (.t 51))⟩])
  .ret))))), [(.cell 8 true 3)], [], true⟩
theorem fo14 : compF Tryz.prog 14 = some ⟨fe14.N, fe14.xc.er, fe14.rs⟩ := by kernel_rfl
theorem ox14 : okX fe14.xc = true := by kernel_rfl
theorem hb14 : hasBody Tryz.prog 14 = true := by kernel_rfl
theorem fk14 : FEOK Tryz.prog 14 fe14 := ⟨fo14, ox14, hb14⟩

/-- isohyet/spot.Of -/
def fe15 : FE := ⟨10, (.seq (.reg [1, 2] [⟨(some 1), none, (.box (.t 0))⟩,
    ⟨(some 2), none, (.new [(.lit (.bool false)), (.lit (.slice none 0 0)), (.lit (.slice none 0 0)), (.lit (.bool false)), (.lit (.slice none 0 0)), (.lit (.slice none 0 0))])⟩])
  (.seq (.regd [] [[], [0], [1], [], [3], [4, 2], [2, 5], [6, 5, 0, 1, 2, 3, 4, 5, 6]] [(⟨(some 3), none, (.fad 0 (.t 1))⟩, ⟨[1], none, false, false⟩),
    (⟨(some 4), none, (.ld false 1 (.t 3))⟩, ⟨[1], none, false, false⟩),
    (⟨(some 5), none, (.call 16 [(.t 4)])⟩, ⟨[], none, true, false⟩),
    (⟨(some 6), none, (.fad 1 (.t 1))⟩, ⟨[1], none, false, false⟩),
    (⟨(some 7), none, (.ld false 1 (.t 6))⟩, ⟨[1], none, false, false⟩),
    (⟨(some 8), none, (.call 16 [(.t 7)])⟩, ⟨[], none, true, false⟩),
    (⟨(some 9), none, (.bld [(.lit (.bool false)), (.lit (.slice none 0 0)), (.lit (.slice none 0 0)), (.lit (.bool false)), (.lit (.slice none 0 0)), (.lit (.slice none 0 0))] [(0, (3, (.t 5))), (3, (3, (.t 8)))])⟩, ⟨[], none, false, false⟩),
    (⟨none, none, (.st 6 (.t 2) (.t 9))⟩, ⟨[2], some 2, false, false⟩)])
  .ret)), [(.cell 2 true 6)], [], true⟩
theorem fo15 : compF Tryz.prog 15 = some ⟨fe15.N, fe15.xc.er, fe15.rs⟩ := by kernel_rfl
theorem ox15 : okX fe15.xc = true := by kernel_rfl
theorem hb15 : hasBody Tryz.prog 15 = true := by kernel_rfl
theorem fk15 : FEOK Tryz.prog 15 fe15 := ⟨fo15, ox15, hb15⟩

/-- isohyet/frac.Of -/
def fe16 : FE := ⟨6, (.seq (.reg [2] [⟨(some 2), none, (.new [(.lit (.bool false)), (.lit (.slice none 0 0)), (.lit (.slice none 0 0))])⟩])
  (.seq (.reg [] [⟨(some 3), none, (.mv (.t 0))⟩,
    ⟨(some 4), none, (.call 45 [(.t 3)])⟩,
    ⟨(some 5), none, (.call 44 [(.t 4)])⟩,
    ⟨none, none, (.st 3 (.t 2) (.t 5))⟩])
  .ret)), [(.cell 2 true 3)], [], true⟩
theorem fo16 : compF Tryz.prog 16 = some ⟨fe16.N, fe16.xc.er, fe16.rs⟩ := by kernel_rfl
theorem ox16 : okX fe16.xc = true := by kernel_rfl
theorem hb16 : hasBody Tryz.prog 16 = true := by kernel_rfl
theorem fk16 : FEOK Tryz.prog 16 fe16 := ⟨fo16, ox16, hb16⟩

/-- isohyet/cavity.Dig -/
def fe19 : FE := ⟨209, (.seq (.reg [4, 5, 6] [⟨(some 4), none, (.box (.t 1))⟩,
    ⟨(some 5), none, (.box (.t 2))⟩,
    ⟨(some 6), none, (.new [(.lit (.slice none 0 0)), (.lit (.slice none 0 0)), (.lit (.bool false))])⟩])
  (.seq (.reg [7] [⟨(some 24), none, (.fad 1 (.t 5))⟩,
    ⟨(some 25), none, (.ld false 1 (.t 24))⟩,
    ⟨(some 26), none, (.bsl 1 1 [(.lit (.int .i64 0))] [(0, (1, (.t 25)))])⟩,
    ⟨(some 27), none, (.bld [(.lit (.slice none 0 0)), (.lit (.slice none 0 0)), (.lit (.bool false))] [(0, (1, (.t 26)))])⟩,
    ⟨(some 7), none, (.new [(.lit (.slice none 0 0)), (.lit (.slice none 0 0)), (.lit (.bool false))])⟩,
    ⟨none, none, (.st 3 (.t 7) (.t 27))⟩])
  (.seq (.seq (.reg [] [⟨(some 28), none, (.fad 0 (.t 5))⟩,
    ⟨(some 29), none, (.ld false 1 (.t 28))⟩,
    ⟨(some 30), none, (.bin .eql (.t 29) (.k (.lit (.int .i64 1))))⟩])
  (.cond (.t 30) (.regd [] [[], [0], [], [], [3], [], [5], [], [7], [2, 4, 6, 8], [9], [1, 10, 9], [0, 1, 2, 3, 4, 5, 6, 7, 8, 9, 10, 11], [12, 11, 11, 0, 1, 2, 3, 4, 5, 6, 7, 8, 9, 10, 11]] [(⟨(some 31), none, (.fad 0 (.t 7))⟩, ⟨[7], none, false, false⟩),
    (⟨(some 32), none, (.ld false 1 (.t 31))⟩, ⟨[7], none, false, false⟩),
    (⟨(some 33), none, (.mv (.t 0))⟩, ⟨[], none, false, false⟩),
    (⟨(some 34), none, (.fad 1 (.t 5))⟩, ⟨[5], none, false, false⟩),
    (⟨(some 35), none, (.ld false 1 (.t 34))⟩, ⟨[5], none, false, false⟩),
    (⟨(some 36), none, (.fad 2 (.t 5))⟩, ⟨[5], none, false, false⟩),
    (⟨(some 37), none, (.ld false 1 (.t 36))⟩, ⟨[5], none, false, false⟩),
    (⟨(some 38), none, (.fad 3 (.t 5))⟩, ⟨[5], none, false, false⟩),
    (⟨(some 39), none, (.ld false 1 (.t 38))⟩, ⟨[5], none, false, false⟩),
    (⟨(some 40), none, (.call 51 [(.t 33), (.t 35), (.t 37), (.t 39)])⟩, ⟨[], none, true, false⟩),
    (⟨(some 41), none, (.bsl 1 1 [(.lit (.int .i64 0))] [(0, (1, (.t 40)))])⟩, ⟨[], none, false, false⟩),
    (⟨(some 42), none, (.app 1 8 (.t 32) (.t 41))⟩, ⟨[], none, true, true⟩),
    (⟨(some 43), none, (.fad 0 (.t 7))⟩, ⟨[7], none, false, false⟩),
    (⟨none, none, (.st 1 (.t 43) (.t 42))⟩, ⟨[7], some 7, false, false⟩)]) .skip))
  (.seq (.reg [] [⟨(some 44), none, .mkm⟩,
    ⟨(some 8), none, (.mv (.t 44))⟩])
  (.seq (.seq (.reg [] [⟨(some 45), none, (.fad 0 (.t 7))⟩,
    ⟨(some 46), none, (.ld false 1 (.t 45))⟩,
    ⟨(some 47), none, (.len (.t 46))⟩,
    ⟨(some 48), none, (.mv (.k (.lit (.int .i64 0))))⟩])
  (.block 0 (.loop (.seq (.reg [] [⟨(some 49), none, (.bin .lss (.t 48) (.t 47))⟩])
  (.seq (.cond (.t 49) .skip (.exit 0))
  (.seq (.block 1 (.seq (.reg [] [⟨(some 50), none, (.iad 1 (.t 46) (.t 48))⟩,
    ⟨(some 51), none, (.ld false 1 (.t 50))⟩,
    ⟨(some 10), none, (.mv (.t 51))⟩])
  (.reg [] [⟨(some 52), none, (.mv (.t 8))⟩,
    ⟨(some 53), none, (.mv (.t 10))⟩,
    ⟨none, none, (.mup none (.t 52) (.t 53) (.k (.lit (.bool true))))⟩])))
  (.reg [] [⟨(some 54), none, (.bin .add (.t 48) (.k (.lit (.int .i64 1))))⟩,
    ⟨(some 48), none, (.mv (.t 54))⟩])))))))
  (.seq (.seq (.reg [] [⟨(some 11), none, (.mv (.k (.lit (.int .i64 0))))⟩])
  (.block 2 (.loop (.seq (.seq (.reg [] [⟨(some 55), none, (.mv (.t 11))⟩,
    ⟨(some 56), none, (.fad 0 (.t 7))⟩,
    ⟨(some 57), none, (.ld false 1 (.t 56))⟩,
    ⟨(some 58), none, (.len (.t 57))⟩,
    ⟨(some 59), none, (.bin .lss (.t 55) (.t 58))⟩])
  (.cond (.t 59) .skip (.exit 2)))
  (.seq (.block 3 (.seq (.regd [12] [[], [0], [1], [2], [], [4], [], [5, 6], [7], [3, 8], [9], [], [11, 10, 0, 1, 2, 3, 4, 5, 6, 7, 8, 9, 10, 11]] [(⟨(some 62), none, (.mv (.t 0))⟩, ⟨[], none, false, false⟩),
    (⟨(some 63), none, (.nck (.t 62))⟩, ⟨[], none, false, false⟩),
    (⟨(some 64), none, (.fad 1 (.t 63))⟩, ⟨[], none, false, false⟩),
    (⟨(some 65), none, (.ld false 1 (.t 64))⟩, ⟨[], none, true, false⟩),
    (⟨(some 66), none, (.fad 0 (.t 7))⟩, ⟨[7], none, false, false⟩),
    (⟨(some 67), none, (.ld false 1 (.t 66))⟩, ⟨[7], none, false, false⟩),
    (⟨(some 68), none, (.mv (.t 11))⟩, ⟨[], none, false, false⟩),
    (⟨(some 69), none, (.iad 1 (.t 67) (.t 68))⟩, ⟨[], none, false, false⟩),
    (⟨(some 70), none, (.ld false 1 (.t 69))⟩, ⟨[], none, true, false⟩),
    (⟨(some 71), none, (.iad 9 (.t 65) (.t 70))⟩, ⟨[], none, false, false⟩),
    (⟨(some 72), none, (.ld true 9 (.t 71))⟩, ⟨[], none, true, false⟩),
    (⟨(some 12), none, (.new [(.lit (.int .i64 0)), (.lit (.int .i64 0)), (.lit (.int .i64 0)), (.lit (.int .i64 0)), (.lit (.int .i64 0)), (.lit (.int .i64 0)), (.lit (.bool false)), (.lit (.bool false)), (.lit (.bool false))])⟩, ⟨[12], some 12, false, false⟩),
    (⟨none, none, (.st 9 (.t 12) (.t 72))⟩, ⟨[12], some 12, false, false⟩)])
  (.seq (.reg [] [⟨(some 73), none, (.fad 3 (.t 12))⟩,
    ⟨(some 74), none, (.ld true 3 (.t 73))⟩,
    ⟨(some 75), none, (.mv (.k (.lit (.int .i64 0))))⟩])
  (.block 4 (.loop (.seq (.reg [] [⟨(some 76), none, (.bin .lss (.t 75) (.k (.lit (.int .i64 3))))⟩])
  (.seq (.cond (.t 76) .skip (.exit 4))
  (.seq (.block 5 (.seq (.reg [] [⟨(some 77), none, (.mv (.t 75))⟩,
    ⟨(some 78), none, (.ixa 3 1 false (.t 74) (.t 75))⟩,
    ⟨(some 13), none, (.mv (.t 77))⟩,
    ⟨(some 14), none, (.mv (.t 78))⟩])
  (.seq (.reg [] [⟨(some 79), none, (.mv (.t 8))⟩,
    ⟨(some 80), none, (.mv (.t 14))⟩,
    ⟨(some 81), none, (.lku none (.lit (.bool false)) false (.t 79) (.t 80))⟩,
    ⟨(some 82), none, (.un .not (.t 81))⟩,
    ⟨(some 83), none, (.mv (.t 82))⟩,
    ⟨(some 84), (some (83, true)), (.mv (.t 13))⟩,
    ⟨(some 85), (some (83, true)), (.fad 6 (.t 12))⟩,
    ⟨(some 86), (some (83, true)), (.iaa 3 1 (.t 85) (.t 84))⟩,
    ⟨(some 87), (some (83, true)), (.ld false 1 (.t 86))⟩,
    ⟨(some 88), (some (83, true)), (.un .not (.t 87))⟩,
    ⟨(some 89), none, (.pick (.t 83) (.t 88) (.k (.lit (.bool false))))⟩,
    ⟨(some 90), none, (.mv (.t 89))⟩,
    ⟨(some 91), (some (90, true)), (.mv (.t 0))⟩,
    ⟨(some 92), (some (90, true)), (.mv (.t 14))⟩,
    ⟨(some 93), (some (90, true)), (.ld true 2 (.t 4))⟩,
    ⟨(some 94), (some (90, true)), (.call 52 [(.t 91), (.t 92), (.t 93)])⟩,
    ⟨(some 95), none, (.pick (.t 90) (.t 94) (.k (.lit (.bool false))))⟩])
  (.cond (.t 95) (.seq (.reg [] [⟨(some 96), none, (.mv (.t 8))⟩,
    ⟨(some 97), none, (.mv (.t 14))⟩,
    ⟨none, none, (.mup none (.t 96) (.t 97) (.k (.lit (.bool true))))⟩])
  (.reg [] [⟨(some 98), none, (.fad 0 (.t 7))⟩,
    ⟨(some 99), none, (.ld false 1 (.t 98))⟩,
    ⟨(some 100), none, (.mv (.t 14))⟩,
    ⟨(some 101), none, (.bsl 1 1 [(.lit (.int .i64 0))] [(0, (1, (.t 100)))])⟩,
    ⟨(some 102), none, (.app 1 8 (.t 99) (.t 101))⟩,
    ⟨(some 103), none, (.fad 0 (.t 7))⟩,
    ⟨none, none, (.st 1 (.t 103) (.t 102))⟩])) .skip))))
  (.reg [] [⟨(some 104), none, (.bin .add (.t 75) (.k (.lit (.int .i64 1))))⟩,
    ⟨(some 75), none, (.mv (.t 104))⟩])))))))))
  (.reg [] [⟨(some 60), none, (.mv (.t 11))⟩,
    ⟨(some 61), none, (.bin .add (.t 60) (.k (.lit (.int .i64 1))))⟩,
    ⟨(some 11), none, (.mv (.t 61))⟩]))))))
  (.seq (.reg [] [⟨(some 105), none, (.fad 0 (.t 7))⟩,
    ⟨(some 106), none, (.ld false 1 (.t 105))⟩,
    ⟨(some 107), none, (.call 53 [(.t 106)])⟩])
  (.seq (.reg [] [⟨(some 108), none, .mkm⟩,
    ⟨(some 15), none, (.mv (.t 108))⟩])
  (.seq (.reg [] [⟨(some 109), none, (.mv (.t 0))⟩,
    ⟨(some 110), none, (.nck (.t 109))⟩,
    ⟨(some 111), none, (.fad 0 (.t 110))⟩,
    ⟨(some 112), none, (.ld false 1 (.t 111))⟩,
    ⟨(some 113), none, (.len (.t 112))⟩,
    ⟨(some 16), none, (.mv (.t 113))⟩])
  (.seq (.seq (.reg [] [⟨(some 114), none, (.fad 0 (.t 7))⟩,
    ⟨(some 115), none, (.ld false 1 (.t 114))⟩,
    ⟨(some 116), none, (.len (.t 115))⟩,
    ⟨(some 117), none, (.mv (.k (.lit (.int .i64 0))))⟩])
  (.block 6 (.loop (.seq (.reg [] [⟨(some 118), none, (.bin .lss (.t 117) (.t 116))⟩])
  (.seq (.cond (.t 118) .skip (.exit 6))
  (.seq (.block 7 (.seq (.reg [] [⟨(some 119), none, (.iad 1 (.t 115) (.t 117))⟩,
    ⟨(some 120), none, (.ld false 1 (.t 119))⟩,
    ⟨(some 18), none, (.mv (.t 120))⟩])
  (.seq (.reg [19] [⟨(some 121), none, (.mv (.t 0))⟩,
    ⟨(some 122), none, (.nck (.t 121))⟩,
    ⟨(some 123), none, (.fad 1 (.t 122))⟩,
    ⟨(some 124), none, (.ld false 1 (.t 123))⟩,
    ⟨(some 125), none, (.mv (.t 18))⟩,
    ⟨(some 126), none, (.iad 9 (.t 124) (.t 125))⟩,
    ⟨(some 127), none, (.ld true 9 (.t 126))⟩,
    ⟨(some 19), none, (.new [(.lit (.int .i64 0)), (.lit (.int .i64 0)), (.lit (.int .i64 0)), (.lit (.int .i64 0)), (.lit (.int .i64 0)), (.lit (.int .i64 0)), (.lit (.bool false)), (.lit (.bool false)), (.lit (.bool false))])⟩,
    ⟨none, none, (.st 9 (.t 19) (.t 127))⟩])
  (.seq (.reg [] [⟨(some 128), none, (.fad 3 (.t 19))⟩,
    ⟨(some 129), none, (.ld true 3 (.t 128))⟩,
    ⟨(some 130), none, (.mv (.k (.lit (.int .i64 0))))⟩])
  (.block 8 (.loop (.seq (.reg [] [⟨(some 131), none, (.bin .lss (.t 130) (.k (.lit (.int .i64 3))))⟩])
  (.seq (.cond (.t 131) .skip (.exit 8))
  (.seq (.block 9 (.seq (.reg [] [⟨(some 132), none, (.mv (.t 130))⟩,
    ⟨(some 133), none, (.ixa 3 1 false (.t 129) (.t 130))⟩,
    ⟨(some 20), none, (.mv (.t 132))⟩,
    ⟨(some 21), none, (.mv (.t 133))⟩])
  (.seq (.seq (.reg [] [⟨(some 134), none, (.mv (.t 8))⟩,
    ⟨(some 135), none, (.mv (.t 21))⟩,
    ⟨(some 136), none, (.lku none (.lit (.bool false)) false (.t 134) (.t 135))⟩])
  (.cond (.t 136) (.exit 9) .skip))
  (.seq (.regd [22] [[], [0], [1], [], [3, 2], [4], [], [6], [7], [], [9, 8], [10], [], [], [], [14, 13], [15], [5, 11, 12, 16], [], [18, 17, 0, 1, 2, 3, 4, 5, 6, 7, 8, 9, 10, 11, 12, 13, 14, 15, 16, 17, 18]] [(⟨(some 137), none, (.mv (.t 20))⟩, ⟨[], none, false, false⟩),
    (⟨(some 138), none, (.bin .add (.t 137) (.k (.lit (.int .i64 1))))⟩, ⟨[], none, false, false⟩),
    (⟨(some 139), none, (.bin .rem (.t 138) (.k (.lit (.int .i64 3))))⟩, ⟨[], none, false, false⟩),
    (⟨(some 140), none, (.fad 0 (.t 19))⟩, ⟨[19], none, false, false⟩),
    (⟨(some 141), none, (.iaa 3 1 (.t 140) (.t 139))⟩, ⟨[19], none, false, false⟩),
    (⟨(some 142), none, (.ld false 1 (.t 141))⟩, ⟨[19], none, false, false⟩),
    (⟨(some 143), none, (.mv (.t 20))⟩, ⟨[], none, false, false⟩),
    (⟨(some 144), none, (.bin .add (.t 143) (.k (.lit (.int .i64 2))))⟩, ⟨[], none, false, false⟩),
    (⟨(some 145), none, (.bin .rem (.t 144) (.k (.lit (.int .i64 3))))⟩, ⟨[], none, false, false⟩),
    (⟨(some 146), none, (.fad 0 (.t 19))⟩, ⟨[19], none, false, false⟩),
    (⟨(some 147), none, (.iaa 3 1 (.t 146) (.t 145))⟩, ⟨[19], none, false, false⟩),
    (⟨(some 148), none, (.ld false 1 (.t 147))⟩, ⟨[19], none, false, false⟩),
    (⟨(some 149), none, (.mv (.t 21))⟩, ⟨[], none, false, false⟩),
    (⟨(some 150), none, (.mv (.t 20))⟩, ⟨[], none, false, false⟩),
    (⟨(some 151), none, (.fad 6 (.t 19))⟩, ⟨[19], none, false, false⟩),
    (⟨(some 152), none, (.iaa 3 1 (.t 151) (.t 150))⟩, ⟨[19], none, false, false⟩),
    (⟨(some 153), none, (.ld false 1 (.t 152))⟩, ⟨[19], none, false, false⟩),
    (⟨(some 154), none, (.bld [(.lit (.int .i64 0)), (.lit (.int .i64 0)), (.lit (.int .i64 0)), (.lit (.int .i64 0)), (.lit (.bool false))] [(0, (1, (.t 142))), (1, (1, (.t 148))), (2, (1, (.t 149))), (4, (1, (.t 153)))])⟩, ⟨[], none, false, false⟩),
    (⟨(some 22), none, (.new [(.lit (.int .i64 0)), (.lit (.int .i64 0)), (.lit (.int .i64 0)), (.lit (.int .i64 0)), (.lit (.bool false))])⟩, ⟨[22], some 22, false, false⟩),
    (⟨none, none, (.st 5 (.t 22) (.t 154))⟩, ⟨[22], some 22, false, false⟩)])
  (.seq (.reg [] [⟨(some 155), none, (.mv (.t 0))⟩,
    ⟨(some 156), none, (.nck (.t 155))⟩,
    ⟨(some 157), none, (.fad 1 (.t 156))⟩,
    ⟨(some 158), none, (.ld false 1 (.t 157))⟩,
    ⟨(some 159), none, (.mv (.t 21))⟩,
    ⟨(some 160), none, (.iad 9 (.t 158) (.t 159))⟩,
    ⟨(some 161), none, (.fad 3 (.t 160))⟩,
    ⟨(some 162), none, (.sla 3 1 (.t 161) none none)⟩,
    ⟨(some 163), none, (.mv (.t 18))⟩,
    ⟨(some 164), none, (.call 54 [(.t 162), (.t 163)])⟩,
    ⟨(some 165), none, (.fad 3 (.t 22))⟩,
    ⟨none, none, (.st 1 (.t 165) (.t 164))⟩])
  (.seq (.reg [] [⟨(some 166), none, (.mv (.t 15))⟩,
    ⟨(some 167), none, (.fad 0 (.t 22))⟩,
    ⟨(some 168), none, (.ld false 1 (.t 167))⟩,
    ⟨(some 169), none, (.ld true 5 (.t 22))⟩,
    ⟨none, none, (.mup none (.t 166) (.t 168) (.t 169))⟩])
  (.seq (.reg [] [⟨(some 170), none, (.mv (.t 16))⟩,
    ⟨(some 171), none, (.fad 0 (.t 22))⟩,
    ⟨(some 172), none, (.ld false 1 (.t 171))⟩,
    ⟨(some 173), none, (.mnx false [(.t 170), (.t 172)])⟩,
    ⟨(some 16), none, (.mv (.t 173))⟩])
  (.reg [] [⟨(some 174), none, (.fad 2 (.t 7))⟩,
    ⟨(some 175), none, (.ld false 1 (.t 174))⟩,
    ⟨(some 176), none, (.mv (.t 175))⟩,
    ⟨(some 177), (some (176, false)), (.fad 4 (.t 22))⟩,
    ⟨(some 178), (some (176, false)), (.ld false 1 (.t 177))⟩,
    ⟨(some 179), (some (176, false)), (.mv (.t 178))⟩,
    ⟨(some 180), (some (179, true)), (.mv (.t 0))⟩,
    ⟨(some 181), (some (179, true)), (.mv (.t 21))⟩,
    ⟨(some 182), (some (179, true)), (.ld true 2 (.t 4))⟩,
    ⟨(some 183), (some (179, true)), (.call 52 [(.t 180), (.t 181), (.t 182)])⟩,
    ⟨(some 184), (some (176, false)), (.pick (.t 179) (.t 183) (.k (.lit (.bool false))))⟩,
    ⟨(some 185), none, (.pick (.t 176) (.k (.lit (.bool true))) (.t 184))⟩,
    ⟨(some 186), none, (.fad 2 (.t 7))⟩,
    ⟨none, none, (.st 1 (.t 186) (.t 185))⟩]))))))))
  (.reg [] [⟨(some 187), none, (.bin .add (.t 130) (.k (.lit (.int .i64 1))))⟩,
    ⟨(some 130), none, (.mv (.t 187))⟩]))))))))))
  (.reg [] [⟨(some 188), none, (.bin .add (.t 117) (.k (.lit (.int .i64 1))))⟩,
    ⟨(some 117), none, (.mv (.t 188))⟩])))))))
  (.seq (.seq (.reg [] [⟨(some 189), none, (.mv (.t 16))⟩,
    ⟨(some 23), none, (.mv (.t 189))⟩])
  (.block 10 (.loop (.seq (.seq (.reg [] [⟨(some 190), none, (.fad 1 (.t 7))⟩,
    ⟨(some 191), none, (.ld false 1 (.t 190))⟩,
    ⟨(some 192), none, (.len (.t 191))⟩,
    ⟨(some 193), none, (.mv (.t 15))⟩,
    ⟨(some 194), none, (.lenm (.t 193))⟩,
    ⟨(some 195), none, (.bin .lss (.t 192) (.t 194))⟩])
  (.cond (.t 195) .skip (.exit 10)))
  (.seq (.block 11 (.reg [] [⟨(some 200), none, (.fad 1 (.t 7))⟩,
    ⟨(some 201), none, (.ld false 1 (.t 200))⟩,
    ⟨(some 202), none, (.mv (.t 15))⟩,
    ⟨(some 203), none, (.mv (.t 23))⟩,
    ⟨(some 204), none, (.lku none (.agg [(.lit (.int .i64 0)), (.lit (.int .i64 0)), (.lit (.int .i64 0)), (.lit (.int .i64 0)), (.lit (.bool false))]) false (.t 202) (.t 203))⟩,
    ⟨(some 205), none, (.bsl 1 5 [(.lit (.int .i64 0)), (.lit (.int .i64 0)), (.lit (.int .i64 0)), (.lit (.int .i64 0)), (.lit (.bool false))] [(0, (5, (.t 204)))])⟩,
    ⟨(some 206), none, (.app 5 40 (.t 201) (.t 205))⟩,
    ⟨(some 207), none, (.fad 1 (.t 7))⟩,
    ⟨none, none, (.st 1 (.t 207) (.t 206))⟩]))
  (.reg [] [⟨(some 196), none, (.mv (.t 15))⟩,
    ⟨(some 197), none, (.mv (.t 23))⟩,
    ⟨(some 198), none, (.lku none (.agg [(.lit (.int .i64 0)), (.lit (.int .i64 0)), (.lit (.int .i64 0)), (.lit (.int .i64 0)), (.lit (.bool false))]) false (.t 196) (.t 197))⟩,
    ⟨(some 199), none, (.fld 1 1 false (.t 198))⟩,
    ⟨(some 23), none, (.mv (.t 199))⟩]))))))
  (.seq (.reg [] [⟨(some 208), none, (.ld true 3 (.t 7))⟩,
    ⟨none, none, (.st 3 (.t 6) (.t 208))⟩])
  .ret)))))))))))), [(.cell 6 true 3)], [26], true⟩
theorem fo19 : compF Tryz.prog 19 = some ⟨fe19.N, fe19.xc.er, fe19.rs⟩ := by kernel_rfl
theorem ox19 : okX fe19.xc = true := by kernel_rfl
theorem hb19 : hasBody Tryz.prog 19 = true := by kernel_rfl
theorem fk19 : FEOK Tryz.prog 19 fe19 := ⟨fo19, ox19, hb19⟩

/-- isohyet/lace.Sides -/
def fe20 : FE := ⟨60, (.seq (.reg [4, 5] [⟨(some 4), none, (.box (.t 1))⟩,
    ⟨(some 5), none, (.box (.t 2))⟩,
    ⟨(some 6), none, (.mv (.k (.lit (.slice none 0 0))))⟩])
  (.seq (.reg [] [⟨(some 7), none, (.mv (.k (.lit (.slice none 0 0))))⟩])
  (.seq (.reg [] [⟨(some 13), none, (.mv (.t 0))⟩,
    ⟨(some 14), none, (.ld true 2 (.t 4))⟩,
    ⟨(some 15), none, (.ld true 3 (.t 5))⟩,
    ⟨(some 16), none, (.call 38 [(.t 13), (.t 14), (.t 15)])⟩,
    ⟨(some 8), none, (.mv (.t 16))⟩])
  (.seq (.seq (.reg [] [⟨(some 17), none, (.fad 1 (.t 5))⟩,
    ⟨(some 18), none, (.ld false 1 (.t 17))⟩,
    ⟨(some 19), none, (.len (.t 18))⟩,
    ⟨(some 20), none, (.mv (.k (.lit (.int .i64 0))))⟩])
  (.block 0 (.loop (.seq (.reg [] [⟨(some 21), none, (.bin .lss (.t 20) (.t 19))⟩])
  (.seq (.cond (.t 21) .skip (.exit 0))
  (.seq (.block 1 (.seq (.reg [10] [⟨(some 22), none, (.mv (.t 20))⟩,
    ⟨(some 23), none, (.iad 5 (.t 18) (.t 20))⟩,
    ⟨(some 24), none, (.ld true 5 (.t 23))⟩,
    ⟨(some 10), none, (.new [(.lit (.int .i64 0)), (.lit (.int .i64 0)), (.lit (.int .i64 0)), (.lit (.int .i64 0)), (.lit (.bool false))])⟩,
    ⟨(some 9), none, (.mv (.t 22))⟩,
    ⟨none, none, (.st 5 (.t 10) (.t 24))⟩])
  (.seq (.regd [11, 12] [[], [], [], [2], [1, 3], [4], [], [6], [5, 7], [0, 8], [9], [], [], [11, 12], [13], [], [], [15, 10, 0, 1, 2, 3, 4, 5, 6, 7, 8, 9, 10, 15, 16], [16, 14, 17, 0, 1, 2, 3, 4, 5, 6, 7, 8, 9, 10, 11, 12, 13, 14, 15, 16, 17]] [(⟨(some 25), none, (.mv (.t 8))⟩, ⟨[], none, false, false⟩),
    (⟨(some 26), none, (.mv (.t 9))⟩, ⟨[], none, false, false⟩),
    (⟨(some 27), none, (.mv (.t 8))⟩, ⟨[], none, false, false⟩),
    (⟨(some 28), none, (.len (.t 27))⟩, ⟨[], none, false, false⟩),
    (⟨(some 29), none, (.bin .add (.t 26) (.t 28))⟩, ⟨[], none, false, false⟩),
    (⟨(some 30), none, (.bin .sub (.t 29) (.k (.lit (.int .i64 1))))⟩, ⟨[], none, false, false⟩),
    (⟨(some 31), none, (.mv (.t 8))⟩, ⟨[], none, false, false⟩),
    (⟨(some 32), none, (.len (.t 31))⟩, ⟨[], none, false, false⟩),
    (⟨(some 33), none, (.bin .rem (.t 30) (.t 32))⟩, ⟨[], none, false, false⟩),
    (⟨(some 34), none, (.iad 6 (.t 25) (.t 33))⟩, ⟨[], none, false, false⟩),
    (⟨(some 35), none, (.ld true 6 (.t 34))⟩, ⟨[], none, true, false⟩),
    (⟨(some 36), none, (.mv (.t 8))⟩, ⟨[], none, false, false⟩),
    (⟨(some 37), none, (.mv (.t 9))⟩, ⟨[], none, false, false⟩),
    (⟨(some 38), none, (.iad 6 (.t 36) (.t 37))⟩, ⟨[], none, false, false⟩),
    (⟨(some 39), none, (.ld true 6 (.t 38))⟩, ⟨[], none, true, false⟩),
    (⟨(some 11), none, (.new [(.lit (.bool false)), (.lit (.slice none 0 0)), (.lit (.slice none 0 0)), (.lit (.bool false)), (.lit (.slice none 0 0)), (.lit (.slice none 0 0))])⟩, ⟨[11], some 11, false, false⟩),
    (⟨(some 12), none, (.new [(.lit (.bool false)), (.lit (.slice none 0 0)), (.lit (.slice none 0 0)), (.lit (.bool false)), (.lit (.slice none 0 0)), (.lit (.slice none 0 0))])⟩, ⟨[12], some 12, false, false⟩),
    (⟨none, none, (.st 6 (.t 11) (.t 35))⟩, ⟨[11], some 11, false, false⟩),
    (⟨none, none, (.st 6 (.t 12) (.t 39))⟩, ⟨[12], some 12, false, false⟩)])
  (.regd [] [[], [], [1], [], [], [4], [5], [6], [], [8], [7, 9], [10], [], [], [3, 11, 12, 13], [2, 14], [15], [0, 16, 14], [17, 17, 0, 1, 2, 3, 4, 5, 6, 7, 8, 9, 10, 11, 12, 13, 14, 15, 16, 17]] [(⟨(some 40), none, (.mv (.t 7))⟩, ⟨[], none, false, false⟩),
    (⟨(some 41), none, (.fad 0 (.t 10))⟩, ⟨[10], none, false, false⟩),
    (⟨(some 42), none, (.ld false 1 (.t 41))⟩, ⟨[10], none, false, false⟩),
    (⟨(some 43), none, (.ld true 2 (.t 4))⟩, ⟨[4], none, false, false⟩),
    (⟨(some 44), none, (.mv (.t 0))⟩, ⟨[], none, false, false⟩),
    (⟨(some 45), none, (.nck (.t 44))⟩, ⟨[], none, false, false⟩),
    (⟨(some 46), none, (.fad 0 (.t 45))⟩, ⟨[], none, false, false⟩),
    (⟨(some 47), none, (.ld false 1 (.t 46))⟩, ⟨[], none, true, false⟩),
    (⟨(some 48), none, (.fad 0 (.t 10))⟩, ⟨[10], none, false, false⟩),
    (⟨(some 49), none, (.ld false 1 (.t 48))⟩, ⟨[10], none, false, false⟩),
    (⟨(some 50), none, (.iad 2 (.t 47) (.t 49))⟩, ⟨[], none, false, false⟩),
    (⟨(some 51), none, (.ld true 2 (.t 50))⟩, ⟨[], none, true, false⟩),
    (⟨(some 52), none, (.ld true 6 (.t 11))⟩, ⟨[11], none, false, false⟩),
    (⟨(some 53), none, (.ld true 6 (.t 12))⟩, ⟨[12], none, false, false⟩),
    (⟨(some 54), none, (.call 14 [(.t 43), (.t 51), (.t 52), (.t 53)])⟩, ⟨[], none, true, false⟩),
    (⟨(some 55), none, (.bld [(.lit (.int .i64 0)), (.lit (.bool false)), (.lit (.slice none 0 0)), (.lit (.slice none 0 0))] [(0, (1, (.t 42))), (1, (3, (.t 54)))])⟩, ⟨[], none, false, false⟩),
    (⟨(some 56), none, (.bsl 1 4 [(.lit (.int .i64 0)), (.lit (.bool false)), (.lit (.slice none 0 0)), (.lit (.slice none 0 0))] [(0, (4, (.t 55)))])⟩, ⟨[], none, false, false⟩),
    (⟨(some 57), none, (.app 4 64 (.t 40) (.t 56))⟩, ⟨[], none, true, true⟩),
    (⟨(some 7), none, (.mv (.t 57))⟩, ⟨[], none, false, false⟩)]))))
  (.reg [] [⟨(some 58), none, (.bin .add (.t 20) (.k (.lit (.int .i64 1))))⟩,
    ⟨(some 20), none, (.mv (.t 58))⟩])))))))
  (.seq (.reg [] [⟨(some 59), none, (.mv (.t 7))⟩,
    ⟨(some 6), none, (.mv (.t 59))⟩])
  .ret))))), [(.tmp 6)], [], true⟩
theorem fo20 : compF Tryz.prog 20 = some ⟨fe20.N, fe20.xc.er, fe20.rs⟩ := by kernel_rfl
theorem ox20 : okX fe20.xc = true := by kernel_rfl
theorem hb20 : hasBody Tryz.prog 20 = true := by kernel_rfl
theorem fk20 : FEOK Tryz.prog 20 fe20 := ⟨fo20, ox20, hb20⟩

/-- isohyet/spot.Centre -/
def fe21 : FE := ⟨90, (.seq (.reg [3, 4, 5, 6] [⟨(some 3), none, (.box (.t 0))⟩,
    ⟨(some 4), none, (.box (.t 1))⟩,
    ⟨(some 5), none, (.box (.t 2))⟩,
    ⟨(some 6), none, (.new [(.lit (.bool false)), (.lit (.slice none 0 0)), (.lit (.slice none 0 0)), (.lit (.bool false)), (.lit (.slice none 0 0)), (.lit (.slice none 0 0))])⟩,
    ⟨(some 7), none, (.mv (.k (.lit (.bool false))))⟩])
  (.seq (.regd [8, 9] [[], [0], [], [2], [1, 3], [4], [], [6], [], [8], [7, 9], [10, 5], [], [], [12, 5, 11, 0, 1, 2, 3, 4, 5, 12, 13], [13, 11, 14, 0, 1, 2, 3, 4, 5, 6, 7, 8, 9, 10, 11, 12, 13, 14]] [(⟨(some 19), none, (.fad 0 (.t 4))⟩, ⟨[4], none, false, false⟩),
    (⟨(some 20), none, (.ld false 1 (.t 19))⟩, ⟨[4], none, false, false⟩),
    (⟨(some 21), none, (.fad 0 (.t 3))⟩, ⟨[3], none, false, false⟩),
    (⟨(some 22), none, (.ld false 1 (.t 21))⟩, ⟨[3], none, false, false⟩),
    (⟨(some 23), none, (.bin .sub (.t 20) (.t 22))⟩, ⟨[], none, false, false⟩),
    (⟨(some 24), none, (.call 45 [(.t 23)])⟩, ⟨[], none, true, false⟩),
    (⟨(some 25), none, (.fad 1 (.t 4))⟩, ⟨[4], none, false, false⟩),
    (⟨(some 26), none, (.ld false 1 (.t 25))⟩, ⟨[4], none, false, false⟩),
    (⟨(some 27), none, (.fad 1 (.t 3))⟩, ⟨[3], none, false, false⟩),
    (⟨(some 28), none, (.ld false 1 (.t 27))⟩, ⟨[3], none, false, false⟩),
    (⟨(some 29), none, (.bin .sub (.t 26) (.t 28))⟩, ⟨[], none, false, false⟩),
    (⟨(some 30), none, (.call 45 [(.t 29)])⟩, ⟨[], none, true, false⟩),
    (⟨(some 8), none, (.new [(.lit (.bool false)), (.lit (.slice none 0 0))])⟩, ⟨[8], some 8, false, false⟩),
    (⟨(some 9), none, (.new [(.lit (.bool false)), (.lit (.slice none 0 0))])⟩, ⟨[9], some 9, false, false⟩),
    (⟨none, none, (.st 2 (.t 8) (.t 24))⟩, ⟨[8], some 8, false, false⟩),
    (⟨none, none, (.st 2 (.t 9) (.t 30))⟩, ⟨[9], some 9, false, false⟩)])
  (.seq (.regd [10, 11] [[], [0], [], [2], [1, 3], [4], [], [6], [], [8], [7, 9], [10, 5], [], [], [12, 5, 11, 0, 1, 2, 3, 4, 5, 12, 13], [13, 11, 14, 0, 1, 2, 3, 4, 5, 6, 7, 8, 9, 10, 11, 12, 13, 14]] [(⟨(some 31), none, (.fad 0 (.t 5))⟩, ⟨[5], none, false, false⟩),
    (⟨(some 32), none, (.ld false 1 (.t 31))⟩, ⟨[5], none, false, false⟩),
    (⟨(some 33), none, (.fad 0 (.t 3))⟩, ⟨[3], none, false, false⟩),
    (⟨(some 34), none, (.ld false 1 (.t 33))⟩, ⟨[3], none, false, false⟩),
    (⟨(some 35), none, (.bin .sub (.t 32) (.t 34))⟩, ⟨[], none, false, false⟩),
    (⟨(some 36), none, (.call 45 [(.t 35)])⟩, ⟨[], none, true, false⟩),
    (⟨(some 37), none, (.fad 1 (.t 5))⟩, ⟨[5], none, false, false⟩),
    (⟨(some 38), none, (.ld false 1 (.t 37))⟩, ⟨[5], none, false, false⟩),
    (⟨(some 39), none, (.fad 1 (.t 3))⟩, ⟨[3], none, false, false⟩),
    (⟨(some 40), none, (.ld false 1 (.t 39))⟩, ⟨[3], none, false, false⟩),
    (⟨(some 41), none, (.bin .sub (.t 38) (.t 40))⟩, ⟨[], none, false, false⟩),
    (⟨(some 42), none, (.call 45 [(.t 41)])⟩, ⟨[], none, true, false⟩),
    (⟨(some 10), none, (.new [(.lit (.bool false)), (.lit (.slice none 0 0))])⟩, ⟨[10], some 10, false, false⟩),
    (⟨(some 11), none, (.new [(.lit (.bool false)), (.lit (.slice none 0 0))])⟩, ⟨[11], some 11, false, false⟩),
    (⟨none, none, (.st 2 (.t 10) (.t 36))⟩, ⟨[10], some 10, false, false⟩),
    (⟨none, none, (.st 2 (.t 11) (.t 42))⟩, ⟨[11], some 11, false, false⟩)])
  (.seq (.regd [12, 13] [[], [], [0, 1], [], [], [3, 4, 2], [], [], [6, 2, 5, 0, 1, 2, 6, 7], [7, 5, 8, 0, 1, 2, 3, 4, 5, 6, 7, 8]] [(⟨(some 43), none, (.ld true 2 (.t 3))⟩, ⟨[3], none, false, false⟩),
    (⟨(some 44), none, (.ld true 2 (.t 4))⟩, ⟨[4], none, false, false⟩),
    (⟨(some 45), none, (.call 55 [(.t 43), (.t 44)])⟩, ⟨[], none, true, false⟩),
    (⟨(some 46), none, (.ld true 2 (.t 3))⟩, ⟨[3], none, false, false⟩),
    (⟨(some 47), none, (.ld true 2 (.t 5))⟩, ⟨[5], none, false, false⟩),
    (⟨(some 48), none, (.call 55 [(.t 46), (.t 47)])⟩, ⟨[], none, true, false⟩),
    (⟨(some 12), none, (.new [(.lit (.bool false)), (.lit (.slice none 0 0))])⟩, ⟨[12], some 12, false, false⟩),
    (⟨(some 13), none, (.new [(.lit (.bool false)), (.lit (.slice none 0 0))])⟩, ⟨[13], some 13, false, false⟩),
    (⟨none, none, (.st 2 (.t 12) (.t 45))⟩, ⟨[12], some 12, false, false⟩),
    (⟨none, none, (.st 2 (.t 13) (.t 48))⟩, ⟨[13], some 13, false, false⟩)])
  (.seq (.regd [14] [[], [], [], [], [1, 2, 3, 0], [0, 4, 4], [], [6, 5, 5, 0, 1, 2, 3, 4, 5, 6]] [(⟨(some 49), none, (.call 45 [(.k (.lit (.int .i64 2)))])⟩, ⟨[], none, true, false⟩),
    (⟨(some 50), none, (.ld true 2 (.t 3))⟩, ⟨[3], none, false, false⟩),
    (⟨(some 51), none, (.ld true 2 (.t 4))⟩, ⟨[4], none, false, false⟩),
    (⟨(some 52), none, (.ld true 2 (.t 5))⟩, ⟨[5], none, false, false⟩),
    (⟨(some 53), none, (.call 57 [(.t 50), (.t 51), (.t 52)])⟩, ⟨[], none, true, false⟩),
    (⟨(some 54), none, (.call 56 [(.t 49), (.t 53)])⟩, ⟨[], none, true, false⟩),
    (⟨(some 14), none, (.new [(.lit (.bool false)), (.lit (.slice none 0 0))])⟩, ⟨[14], some 14, false, false⟩),
    (⟨none, none, (.st 2 (.t 14) (.t 54))⟩, ⟨[14], some 14, false, false⟩)])
  (.seq (.regd [15] [[], [], [], [], [0, 1, 2, 3], [], [4, 5, 4], [6], [7], [7], [], [10, 8, 6, 0, 1, 2, 3, 4, 5, 6, 7, 8, 10], [9, 11, 0, 1, 2, 3, 4, 5, 6, 7, 8, 9, 10, 11]] [(⟨(some 56), none, (.ld true 2 (.t 12))⟩, ⟨[12], none, false, false⟩),
    (⟨(some 57), none, (.ld true 2 (.t 9))⟩, ⟨[9], none, false, false⟩),
    (⟨(some 58), none, (.ld true 2 (.t 13))⟩, ⟨[13], none, false, false⟩),
    (⟨(some 59), none, (.ld true 2 (.t 11))⟩, ⟨[11], none, false, false⟩),
    (⟨(some 60), none, (.call 59 [(.t 56), (.t 57), (.t 58), (.t 59)])⟩, ⟨[], none, true, false⟩),
    (⟨(some 61), none, (.ld true 2 (.t 14))⟩, ⟨[14], none, false, false⟩),
    (⟨(some 62), none, (.call 58 [(.t 60), (.t 61)])⟩, ⟨[], none, true, false⟩),
    (⟨(some 55), none, (.mv (.t 62))⟩, ⟨[], none, false, false⟩),
    (⟨(some 63), none, (.ext (.t 55) 0)⟩, ⟨[], none, false, false⟩),
    (⟨(some 64), none, (.ext (.t 55) 1)⟩, ⟨[], none, false, false⟩),
    (⟨(some 15), none, (.new [(.lit (.bool false)), (.lit (.slice none 0 0)), (.lit (.slice none 0 0))])⟩, ⟨[15], some 15, false, false⟩),
    (⟨none, none, (.st 3 (.t 15) (.t 63))⟩, ⟨[15], some 15, false, false⟩),
    (⟨(some 16), none, (.mv (.t 64))⟩, ⟨[], none, false, false⟩)])
  (.seq (.regd [17] [[], [], [], [], [0, 1, 2, 3], [], [4, 5, 4], [6], [7], [7], [], [10, 8, 6, 0, 1, 2, 3, 4, 5, 6, 7, 8, 10], [9, 11, 0, 1, 2, 3, 4, 5, 6, 7, 8, 9, 10, 11]] [(⟨(some 66), none, (.ld true 2 (.t 8))⟩, ⟨[8], none, false, false⟩),
    (⟨(some 67), none, (.ld true 2 (.t 12))⟩, ⟨[12], none, false, false⟩),
    (⟨(some 68), none, (.ld true 2 (.t 10))⟩, ⟨[10], none, false, false⟩),
    (⟨(some 69), none, (.ld true 2 (.t 13))⟩, ⟨[13], none, false, false⟩),
    (⟨(some 70), none, (.call 59 [(.t 66), (.t 67), (.t 68), (.t 69)])⟩, ⟨[], none, true, false⟩),
    (⟨(some 71), none, (.ld true 2 (.t 14))⟩, ⟨[14], none, false, false⟩),
    (⟨(some 72), none, (.call 58 [(.t 70), (.t 71)])⟩, ⟨[], none, true, false⟩),
    (⟨(some 65), none, (.mv (.t 72))⟩, ⟨[], none, false, false⟩),
    (⟨(some 73), none, (.ext (.t 65) 0)⟩, ⟨[], none, false, false⟩),
    (⟨(some 74), none, (.ext (.t 65) 1)⟩, ⟨[], none, false, false⟩),
    (⟨(some 17), none, (.new [(.lit (.bool false)), (.lit (.slice none 0 0)), (.lit (.slice none 0 0))])⟩, ⟨[17], some 17, false, false⟩),
    (⟨none, none, (.st 3 (.t 17) (.t 73))⟩, ⟨[17], some 17, false, false⟩),
    (⟨(some 18), none, (.mv (.t 74))⟩, ⟨[], none, false, false⟩)])
  (.seq (.seq (.reg [] [⟨(some 75), none, (.mv (.t 16))⟩,
    ⟨(some 76), none, (.un .not (.t 75))⟩])
  (.cond (.t 76) (.seq (.reg [] [⟨(some 77), none, (.bld [(.lit (.int .i64 0)), (.lit (.int .i64 0))] [])⟩,
    ⟨(some 78), none, (.call 15 [(.t 77)])⟩,
    ⟨none, none, (.st 6 (.t 6) (.t 78))⟩,
    ⟨(some 7), none, (.mv (.k (.lit (.bool false))))⟩])
  .ret) .skip))
  (.seq (.regd [] [[], [], [1], [2], [0, 3, 3], [], [], [6], [7, 4], [5, 8, 8], [4, 9], [10, 9, 0, 1, 2, 3, 4, 5, 6, 7, 8, 9, 10], [11, 0, 1, 2, 3, 4, 5, 6, 7, 8, 9, 10, 11]] [(⟨(some 79), none, (.ld true 3 (.t 15))⟩, ⟨[15], none, false, false⟩),
    (⟨(some 80), none, (.fad 0 (.t 3))⟩, ⟨[3], none, false, false⟩),
    (⟨(some 81), none, (.ld false 1 (.t 80))⟩, ⟨[3], none, false, false⟩),
    (⟨(some 82), none, (.call 16 [(.t 81)])⟩, ⟨[], none, true, false⟩),
    (⟨(some 83), none, (.call 26 [(.t 79), (.t 82)])⟩, ⟨[], none, true, false⟩),
    (⟨(some 84), none, (.ld true 3 (.t 17))⟩, ⟨[17], none, false, false⟩),
    (⟨(some 85), none, (.fad 1 (.t 3))⟩, ⟨[3], none, false, false⟩),
    (⟨(some 86), none, (.ld false 1 (.t 85))⟩, ⟨[3], none, false, false⟩),
    (⟨(some 87), none, (.call 16 [(.t 86)])⟩, ⟨[], none, true, false⟩),
    (⟨(some 88), none, (.call 26 [(.t 84), (.t 87)])⟩, ⟨[], none, true, false⟩),
    (⟨(some 89), none, (.bld [(.lit (.bool false)), (.lit (.slice none 0 0)), (.lit (.slice none 0 0)), (.lit (.bool false)), (.lit (.slice none 0 0)), (.lit (.slice none 0 0))] [(0, (3, (.t 83))), (3, (3, (.t 88)))])⟩, ⟨[], none, false, false⟩),
    (⟨none, none, (.st 6 (.t 6) (.t 89))⟩, ⟨[6], some 6, false, false⟩),
    (⟨(some 7), none, (.mv (.k (.lit (.bool true))))⟩, ⟨[], none, false, false⟩)])
  .ret))))))))), [(.cell 6 true 6), (.tmp 7)], [], true⟩
theorem fo21 : compF Tryz.prog 21 = some ⟨fe21.N, fe21.xc.er, fe21.rs⟩ := by kernel_rfl
theorem ox21 : okX fe21.xc = true := by kernel_rfl
theorem hb21 : hasBody Tryz.prog 21 = true := by kernel_rfl
theorem fk21 : FEOK Tryz.prog 21 fe21 := ⟨fo21, ox21, hb21⟩

/-- isohyet/frac.Sub -/
def fe22 : FE := ⟨9, (.seq (.reg [2, 3, 4] [⟨(some 2), none, (.box (.t 0))⟩,
    ⟨(some 3), none, (.box (.t 1))⟩,
    ⟨(some 4), none, (.new [(.lit (.bool false)), (.lit (.slice none 0 0)), (.lit (.slice none 0 0))])⟩])
  (.seq (.regd [] [[], [], [1], [0, 2, 2], [3, 3, 0, 1, 2, 3]] [(⟨(some 5), none, (.ld true 3 (.t 2))⟩, ⟨[2], none, false, false⟩),
    (⟨(some 6), none, (.ld true 3 (.t 3))⟩, ⟨[3], none, false, false⟩),
    (⟨(some 7), none, (.call 23 [(.t 6)])⟩, ⟨[], none, true, false⟩),
    (⟨(some 8), none, (.call 26 [(.t 5), (.t 7)])⟩, ⟨[], none, true, false⟩),
    (⟨none, none, (.st 3 (.t 4) (.t 8))⟩, ⟨[4], some 4, false, false⟩)])
  .ret)), [(.cell 4 true 3)], [], true⟩
theorem fo22 : compF Tryz.prog 22 = some ⟨fe22.N, fe22.xc.er, fe22.rs⟩ := by kernel_rfl
theorem ox22 : okX fe22.xc = true := by kernel_rfl
theorem hb22 : hasBody Tryz.prog 22 = true := by kernel_rfl
theorem fk22 : FEOK Tryz.prog 22 fe22 := ⟨fo22, ox22, hb22⟩

/-- isohyet/frac.Neg -/
def fe23 : FE := ⟨9, (.seq (.reg [1, 2] [⟨(some 1), none, (.box (.t 0))⟩,
    ⟨(some 2), none, (.new [(.lit (.bool false)), (.lit (.slice none 0 0)), (.lit (.slice none 0 0))])⟩])
  (.seq (.regd [] [[], [0], [1], [], [3, 2], [2, 4, 4], [5, 5, 0, 1, 2, 3, 4, 5]] [(⟨(some 3), none, (.fad 0 (.t 1))⟩, ⟨[1], none, false, false⟩),
    (⟨(some 4), none, (.ld true 2 (.t 3))⟩, ⟨[1], none, false, false⟩),
    (⟨(some 5), none, (.call 61 [(.t 4)])⟩, ⟨[], none, true, false⟩),
    (⟨(some 6), none, (.ld true 3 (.t 1))⟩, ⟨[1], none, false, false⟩),
    (⟨(some 7), none, (.call 62 [(.t 6)])⟩, ⟨[], none, true, false⟩),
    (⟨(some 8), none, (.call 60 [(.t 5), (.t 7)])⟩, ⟨[], none, true, false⟩),
    (⟨none, none, (.st 3 (.t 2) (.t 8))⟩, ⟨[2], some 2, false, false⟩)])
  .ret)), [(.cell 2 true 3)], [], true⟩
theorem fo23 : compF Tryz.prog 23 = some ⟨fe23.N, fe23.xc.er, fe23.rs⟩ := by kernel_rfl
theorem ox23 : okX fe23.xc = true := by kernel_rfl
theorem hb23 : hasBody Tryz.prog 23 = true := by kernel_rfl
theorem fk23 : FEOK Tryz.prog 23 fe23 := ⟨fo23, ox23, hb23⟩

/-- isohyet/frac.Mul -/
def fe24 : FE := ⟨16, (.seq (.reg [2, 3, 4] [⟨(some 2), none, (.box (.t 0))⟩,
    ⟨(some 3), none, (.box (.t 1))⟩,
    ⟨(some 4), none, (.new [(.lit (.bool false)), (.lit (.slice none 0 0)), (.lit (.slice none 0 0))])⟩])
  (.seq (.regd [] [[], [0], [], [2], [1, 3], [], [5, 4], [], [7, 6], [6, 8, 8], [4, 9, 9], [10, 10, 0, 1, 2, 3, 4, 5, 6, 7, 8, 9, 10]] [(⟨(some 5), none, (.fad 0 (.t 2))⟩, ⟨[2], none, false, false⟩),
    (⟨(some 6), none, (.ld true 2 (.t 5))⟩, ⟨[2], none, false, false⟩),
    (⟨(some 7), none, (.fad 0 (.t 3))⟩, ⟨[3], none, false, false⟩),
    (⟨(some 8), none, (.ld true 2 (.t 7))⟩, ⟨[3], none, false, false⟩),
    (⟨(some 9), none, (.call 56 [(.t 6), (.t 8)])⟩, ⟨[], none, true, false⟩),
    (⟨(some 10), none, (.ld true 3 (.t 2))⟩, ⟨[2], none, false, false⟩),
    (⟨(some 11), none, (.call 62 [(.t 10)])⟩, ⟨[], none, true, false⟩),
    (⟨(some 12), none, (.ld true 3 (.t 3))⟩, ⟨[3], none, false, false⟩),
    (⟨(some 13), none, (.call 62 [(.t 12)])⟩, ⟨[], none, true, false⟩),
    (⟨(some 14), none, (.call 63 [(.t 11), (.t 13)])⟩, ⟨[], none, true, false⟩),
    (⟨(some 15), none, (.call 60 [(.t 9), (.t 14)])⟩, ⟨[], none, true, false⟩),
    (⟨none, none, (.st 3 (.t 4) (.t 15))⟩, ⟨[4], some 4, false, false⟩)])
  .ret)), [(.cell 4 true 3)], [], true⟩
theorem fo24 : compF Tryz.prog 24 = some ⟨fe24.N, fe24.xc.er, fe24.rs⟩ := by kernel_rfl
theorem ox24 : okX fe24.xc = true := by kernel_rfl
theorem hb24 : hasBody Tryz.prog 24 = true := by kernel_rfl
theorem fk24 : FEOK Tryz.prog 24 fe24 := ⟨fo24, ox24, hb24⟩

/-- isohyet/frac.Add -/
def fe26 : FE := ⟨24, (.seq (.reg [2, 3, 4] [⟨(some 2), none, (.box (.t 0))⟩,
    ⟨(some 3), none, (.box (.t 1))⟩,
    ⟨(some 4), none, (.new [(.lit (.bool false)), (.lit (.slice none 0 0)), (.lit (.slice none 0 0))])⟩])
  (.seq (.regd [5] [[], [0], [], [2], [1, 3, 3], [], [5], [], [7, 4], [6, 8, 8], [4, 9, 9], [], [11, 10, 10, 0, 1, 2, 3, 4, 5, 6, 7, 8, 9, 10, 11]] [(⟨(some 6), none, (.fad 0 (.t 2))⟩, ⟨[2], none, false, false⟩),
    (⟨(some 7), none, (.ld true 2 (.t 6))⟩, ⟨[2], none, false, false⟩),
    (⟨(some 8), none, (.ld true 3 (.t 3))⟩, ⟨[3], none, false, false⟩),
    (⟨(some 9), none, (.call 65 [(.t 8)])⟩, ⟨[], none, true, false⟩),
    (⟨(some 10), none, (.call 56 [(.t 7), (.t 9)])⟩, ⟨[], none, true, false⟩),
    (⟨(some 11), none, (.fad 0 (.t 3))⟩, ⟨[3], none, false, false⟩),
    (⟨(some 12), none, (.ld true 2 (.t 11))⟩, ⟨[3], none, false, false⟩),
    (⟨(some 13), none, (.ld true 3 (.t 2))⟩, ⟨[2], none, false, false⟩),
    (⟨(some 14), none, (.call 65 [(.t 13)])⟩, ⟨[], none, true, false⟩),
    (⟨(some 15), none, (.call 56 [(.t 12), (.t 14)])⟩, ⟨[], none, true, false⟩),
    (⟨(some 16), none, (.call 64 [(.t 10), (.t 15)])⟩, ⟨[], none, true, false⟩),
    (⟨(some 5), none, (.new [(.lit (.bool false)), (.lit (.slice none 0 0))])⟩, ⟨[5], some 5, false, false⟩),
    (⟨none, none, (.st 2 (.t 5) (.t 16))⟩, ⟨[5], some 5, false, false⟩)])
  (.seq (.regd [] [[], [], [1], [], [3, 2], [2, 4, 4], [0, 5, 5], [6, 6, 0, 1, 2, 3, 4, 5, 6]] [(⟨(some 17), none, (.ld true 2 (.t 5))⟩, ⟨[5], none, false, false⟩),
    (⟨(some 18), none, (.ld true 3 (.t 2))⟩, ⟨[2], none, false, false⟩),
    (⟨(some 19), none, (.call 62 [(.t 18)])⟩, ⟨[], none, true, false⟩),
    (⟨(some 20), none, (.ld true 3 (.t 3))⟩, ⟨[3], none, false, false⟩),
    (⟨(some 21), none, (.call 62 [(.t 20)])⟩, ⟨[], none, true, false⟩),
    (⟨(some 22), none, (.call 63 [(.t 19), (.t 21)])⟩, ⟨[], none, true, false⟩),
    (⟨(some 23), none, (.call 60 [(.t 17), (.t 22)])⟩, ⟨[], none, true, false⟩),
    (⟨none, none, (.st 3 (.t 4) (.t 23))⟩, ⟨[4], some 4, false, false⟩)])
  .ret))), [(.cell 4 true 3)], [], true⟩
theorem fo26 : compF Tryz.prog 26 = some ⟨fe26.N, fe26.xc.er, fe26.rs⟩ := by kernel_rfl
theorem ox26 : okX fe26.xc = true := by kernel_rfl
theorem hb26 : hasBody Tryz.prog 26 = true := by kernel_rfl
theorem fk26 : FEOK Tryz.prog 26 fe26 := ⟨fo26, ox26, hb26⟩

/-- isohyet/frac.Sign -/
def fe27 : FE := ⟨6, (.seq (.reg [1] [⟨(some 1), none, (.box (.t 0))⟩,
    ⟨(some 2), none, (.mv (.k (.lit (.int .i64 0))))⟩])
  (.seq (.reg [] [⟨(some 3), none, (.fad 0 (.t 1))⟩,
    ⟨(some 4), none, (.ld true 2 (.t 3))⟩,
    ⟨(some 5), none, (.call 66 [(.t 4)])⟩,
    ⟨(some 2), none, (.mv (.t 5))⟩])
  .ret)), [(.tmp 2)], [], true⟩
theorem fo27 : compF Tryz.prog 27 = some ⟨fe27.N, fe27.xc.er, fe27.rs⟩ := by kernel_rfl
theorem ox27 : okX fe27.xc = true := by kernel_rfl
theorem hb27 : hasBody Tryz.prog 27 = true := by kernel_rfl
theorem fk27 : FEOK Tryz.prog 27 fe27 := ⟨fo27, ox27, hb27⟩

/-- isohyet/frac.Div -/
def fe33 : FE := ⟨19, (.seq (.reg [2, 3, 4] [⟨(some 2), none, (.box (.t 0))⟩,
    ⟨(some 3), none, (.box (.t 1))⟩,
    ⟨(some 4), none, (.new [(.lit (.bool false)), (.lit (.slice none 0 0)), (.lit (.slice none 0 0))])⟩,
    ⟨(some 5), none, (.mv (.k (.lit (.bool false))))⟩])
  (.seq (.regd [] [[], [0], [], [2], [1, 3, 3], [], [5], [], [7, 4], [6, 8, 8], [4, 9, 9], [10], [10], [11, 10, 0, 1, 2, 3, 4, 5, 6, 7, 8, 9, 10, 11, 12], [12, 13, 0, 1, 2, 3, 4, 5, 6, 7, 8, 9, 10, 11, 12, 13]] [(⟨(some 6), none, (.fad 0 (.t 2))⟩, ⟨[2], none, false, false⟩),
    (⟨(some 7), none, (.ld true 2 (.t 6))⟩, ⟨[2], none, false, false⟩),
    (⟨(some 8), none, (.ld true 3 (.t 3))⟩, ⟨[3], none, false, false⟩),
    (⟨(some 9), none, (.call 65 [(.t 8)])⟩, ⟨[], none, true, false⟩),
    (⟨(some 10), none, (.call 56 [(.t 7), (.t 9)])⟩, ⟨[], none, true, false⟩),
    (⟨(some 11), none, (.fad 0 (.t 3))⟩, ⟨[3], none, false, false⟩),
    (⟨(some 12), none, (.ld true 2 (.t 11))⟩, ⟨[3], none, false, false⟩),
    (⟨(some 13), none, (.ld true 3 (.t 2))⟩, ⟨[2], none, false, false⟩),
    (⟨(some 14), none, (.call 65 [(.t 13)])⟩, ⟨[], none, true, false⟩),
    (⟨(some 15), none, (.call 56 [(.t 12), (.t 14)])⟩, ⟨[], none, true, false⟩),
    (⟨(some 16), none, (.call 58 [(.t 10), (.t 15)])⟩, ⟨[], none, true, false⟩),
    (⟨(some 17), none, (.ext (.t 16) 0)⟩, ⟨[], none, false, false⟩),
    (⟨(some 18), none, (.ext (.t 16) 1)⟩, ⟨[], none, false, false⟩),
    (⟨none, none, (.st 3 (.t 4) (.t 17))⟩, ⟨[4], some 4, false, false⟩),
    (⟨(some 5), none, (.mv (.t 18))⟩, ⟨[], none, false, false⟩)])
  .ret)), [(.cell 4 true 3), (.tmp 5)], [], true⟩
theorem fo33 : compF Tryz.prog 33 = some ⟨fe33.N, fe33.xc.er, fe33.rs⟩ := by kernel_rfl
theorem ox33 : okX fe33.xc = true := by kernel_rfl
theorem hb33 : hasBody Tryz.prog 33 = true := by kernel_rfl
theorem fk33 : FEOK Tryz.prog 33 fe33 := ⟨fo33, ox33, hb33⟩

/-- isohyet/spot.Dist2 -/
def fe34 : FE := ⟨24, (.seq (.reg [2, 3, 4] [⟨(some 2), none, (.box (.t 0))⟩,
    ⟨(some 3), none, (.box (.t 1))⟩,
    ⟨(some 4), none, (.new [(.lit (.bool false)), (.lit (.slice none 0 0)), (.lit (.slice none 0 0))])⟩])
  (.seq (.regd [5, 6] [[], [0], [], [2], [1, 3], [], [5], [], [7], [6, 8, 4], [], [], [10, 4, 9, 0, 1, 2, 3, 4, 10, 11], [11, 9, 12, 0, 1, 2, 3, 4, 5, 6, 7, 8, 9, 10, 11, 12]] [(⟨(some 7), none, (.fad 0 (.t 2))⟩, ⟨[2], none, false, false⟩),
    (⟨(some 8), none, (.ld true 3 (.t 7))⟩, ⟨[2], none, false, false⟩),
    (⟨(some 9), none, (.fad 0 (.t 3))⟩, ⟨[3], none, false, false⟩),
    (⟨(some 10), none, (.ld true 3 (.t 9))⟩, ⟨[3], none, false, false⟩),
    (⟨(some 11), none, (.call 22 [(.t 8), (.t 10)])⟩, ⟨[], none, true, false⟩),
    (⟨(some 12), none, (.fad 3 (.t 2))⟩, ⟨[2], none, false, false⟩),
    (⟨(some 13), none, (.ld true 3 (.t 12))⟩, ⟨[2], none, false, false⟩),
    (⟨(some 14), none, (.fad 3 (.t 3))⟩, ⟨[3], none, false, false⟩),
    (⟨(some 15), none, (.ld true 3 (.t 14))⟩, ⟨[3], none, false, false⟩),
    (⟨(some 16), none, (.call 22 [(.t 13), (.t 15)])⟩, ⟨[], none, true, false⟩),
    (⟨(some 5), none, (.new [(.lit (.bool false)), (.lit (.slice none 0 0)), (.lit (.slice none 0 0))])⟩, ⟨[5], some 5, false, false⟩),
    (⟨(some 6), none, (.new [(.lit (.bool false)), (.lit (.slice none 0 0)), (.lit (.slice none 0 0))])⟩, ⟨[6], some 6, false, false⟩),
    (⟨none, none, (.st 3 (.t 5) (.t 11))⟩, ⟨[5], some 5, false, false⟩),
    (⟨none, none, (.st 3 (.t 6) (.t 16))⟩, ⟨[6], some 6, false, false⟩)])
  (.seq (.regd [] [[], [], [0, 1], [], [], [3, 4, 2], [2, 5, 5], [6, 6, 0, 1, 2, 3, 4, 5, 6]] [(⟨(some 17), none, (.ld true 3 (.t 5))⟩, ⟨[5], none, false, false⟩),
    (⟨(some 18), none, (.ld true 3 (.t 5))⟩, ⟨[5], none, false, false⟩),
    (⟨(some 19), none, (.call 24 [(.t 17), (.t 18)])⟩, ⟨[], none, true, false⟩),
    (⟨(some 20), none, (.ld true 3 (.t 6))⟩, ⟨[6], none, false, false⟩),
    (⟨(some 21), none, (.ld true 3 (.t 6))⟩, ⟨[6], none, false, false⟩),
    (⟨(some 22), none, (.call 24 [(.t 20), (.t 21)])⟩, ⟨[], none, true, false⟩),
    (⟨(some 23), none, (.call 26 [(.t 19), (.t 22)])⟩, ⟨[], none, true, false⟩),
    (⟨none, none, (.st 3 (.t 4) (.t 23))⟩, ⟨[4], some 4, false, false⟩)])
  .ret))), [(.cell 4 true 3)], [], true⟩
theorem fo34 : compF Tryz.prog 34 = some ⟨fe34.N, fe34.xc.er, fe34.rs⟩ := by kernel_rfl
theorem ox34 : okX fe34.xc = true := by kernel_rfl
theorem hb34 : hasBody Tryz.prog 34 = true := by kernel_rfl
theorem fk34 : FEOK Tryz.prog 34 fe34 := ⟨fo34, ox34, hb34⟩

/-- isohyet/steal.Cell -/
def fe38 : FE := ⟨46, (.seq (.reg [4, 5] [⟨(some 4), none, (.box (.t 1))⟩,
    ⟨(some 5), none, (.box (.t 2))⟩,
    ⟨(some 6), none, (.mv (.k (.lit (.slice none 0 0))))⟩])
  (.seq (.reg [] [⟨(some 7), none, (.mv (.k (.lit (.slice none 0 0))))⟩])
  (.seq (.seq (.reg [] [⟨(some 12), none, (.fad 1 (.t 5))⟩,
    ⟨(some 13), none, (.ld false 1 (.t 12))⟩,
    ⟨(some 14), none, (.len (.t 13))⟩,
    ⟨(some 15), none, (.mv (.k (.lit (.int .i64 0))))⟩])
  (.block 0 (.loop (.seq (.reg [] [⟨(some 16), none, (.bin .lss (.t 15) (.t 14))⟩])
  (.seq (.cond (.t 16) .skip (.exit 0))
  (.seq (.block 1 (.seq (.reg [9] [⟨(some 17), none, (.iad 5 (.t 13) (.t 15))⟩,
    ⟨(some 18), none, (.ld true 5 (.t 17))⟩,
    ⟨(some 9), none, (.new [(.lit (.int .i64 0)), (.lit (.int .i64 0)), (.lit (.int .i64 0)), (.lit (.int .i64 0)), (.lit (.bool false))])⟩,
    ⟨none, none, (.st 5 (.t 9) (.t 18))⟩])
  (.seq (.regd [10] [[], [], [1], [2], [3], [], [5], [4, 6], [7], [], [9], [10], [11], [], [13], [12, 14], [15], [0, 8, 16], [17], [18], [18], [], [21, 19, 17, 0, 1, 2, 3, 4, 5, 6, 7, 8, 9, 10, 11, 12, 13, 14, 15, 16, 17, 18, 19, 21], [20, 22, 0, 1, 2, 3, 4, 5, 6, 7, 8, 9, 10, 11, 12, 13, 14, 15, 16, 17, 18, 19, 20, 21, 22]] [(⟨(some 20), none, (.ld true 2 (.t 4))⟩, ⟨[4], none, false, false⟩),
    (⟨(some 21), none, (.mv (.t 0))⟩, ⟨[], none, false, false⟩),
    (⟨(some 22), none, (.nck (.t 21))⟩, ⟨[], none, false, false⟩),
    (⟨(some 23), none, (.fad 0 (.t 22))⟩, ⟨[], none, false, false⟩),
    (⟨(some 24), none, (.ld false 1 (.t 23))⟩, ⟨[], none, true, false⟩),
    (⟨(some 25), none, (.fad 0 (.t 9))⟩, ⟨[9], none, false, false⟩),
    (⟨(some 26), none, (.ld false 1 (.t 25))⟩, ⟨[9], none, false, false⟩),
    (⟨(some 27), none, (.iad 2 (.t 24) (.t 26))⟩, ⟨[], none, false, false⟩),
    (⟨(some 28), none, (.ld true 2 (.t 27))⟩, ⟨[], none, true, false⟩),
    (⟨(some 29), none, (.mv (.t 0))⟩, ⟨[], none, false, false⟩),
    (⟨(some 30), none, (.nck (.t 29))⟩, ⟨[], none, false, false⟩),
    (⟨(some 31), none, (.fad 0 (.t 30))⟩, ⟨[], none, false, false⟩),
    (⟨(some 32), none, (.ld false 1 (.t 31))⟩, ⟨[], none, true, false⟩),
    (⟨(some 33), none, (.fad 1 (.t 9))⟩, ⟨[9], none, false, false⟩),
    (⟨(some 34), none, (.ld false 1 (.t 33))⟩, ⟨[9], none, false, false⟩),
    (⟨(some 35), none, (.iad 2 (.t 32) (.t 34))⟩, ⟨[], none, false, false⟩),
    (⟨(some 36), none, (.ld true 2 (.t 35))⟩, ⟨[], none, true, false⟩),
    (⟨(some 37), none, (.call 21 [(.t 20), (.t 28), (.t 36)])⟩, ⟨[], none, true, false⟩),
    (⟨(some 19), none, (.mv (.t 37))⟩, ⟨[], none, false, false⟩),
    (⟨(some 38), none, (.ext (.t 19) 0)⟩, ⟨[], none, false, false⟩),
    (⟨(some 39), none, (.ext (.t 19) 1)⟩, ⟨[], none, false, false⟩),
    (⟨(some 10), none, (.new [(.lit (.bool false)), (.lit (.slice none 0 0)), (.lit (.slice none 0 0)), (.lit (.bool false)), (.lit (.slice none 0 0)), (.lit (.slice none 0 0))])⟩, ⟨[10], some 10, false, false⟩),
    (⟨none, none, (.st 6 (.t 10) (.t 38))⟩, ⟨[10], some 10, false, false⟩),
    (⟨(some 11), none, (.mv (.t 39))⟩, ⟨[], none, false, false⟩)])
  (.reg [] [⟨(some 40), none, (.mv (.t 7))⟩,
    ⟨(some 41), none, (.ld true 6 (.t 10))⟩,
    ⟨(some 42), none, (.bsl 1 6 [(.lit (.bool false)), (.lit (.slice none 0 0)), (.lit (.slice none 0 0)), (.lit (.bool false)), (.lit (.slice none 0 0)), (.lit (.slice none 0 0))] [(0, (6, (.t 41)))])⟩,
    ⟨(some 43), none, (.app 6 112 (.t 40) (.t 42))⟩,
    ⟨(some 7), none, (.mv (.t 43))⟩]))))
  (.reg [] [⟨(some 44), none, (.bin .add (.t 15) (.k (.lit (.int .i64 1))))⟩,
    ⟨(some 15), none, (.mv (.t 44))⟩])))))))
  (.seq (.reg [] [⟨(some 45), none, (.mv (.t 7))⟩,
    ⟨(some 6), none, (.mv (.t 45))⟩])
  .ret)))), [(.tmp 6)], [], true⟩
theorem fo38 : compF Tryz.prog 38 = some ⟨fe38.N, fe38.xc.er, fe38.rs⟩ := by kernel_rfl
theorem ox38 : okX fe38.xc = true := by kernel_rfl
theorem hb38 : hasBody Tryz.prog 38 = true := by kernel_rfl
theorem fk38 : FEOK Tryz.prog 38 fe38 := ⟨fo38, ox38, hb38⟩

/-- isohyet/grow.Build -/
def fe39 : FE := ⟨60, (.seq (.reg [] [⟨(some 2), none, (.mv (.k (.lit (.pointer none))))⟩,
    ⟨(some 3), none, (.mv (.k (.lit (.bool false))))⟩])
  (.seq (.reg [4] [⟨(some 11), none, (.mv (.t 0))⟩,
    ⟨(some 12), none, (.call 71 [(.t 11)])⟩,
    ⟨(some 10), none, (.mv (.t 12))⟩,
    ⟨(some 13), none, (.ext (.t 10) 0)⟩,
    ⟨(some 14), none, (.ext (.t 10) 1)⟩,
    ⟨(some 4), none, (.new [(.lit (.int .i64 0)), (.lit (.int .i64 0)), (.lit (.int .i64 0))])⟩,
    ⟨none, none, (.st 3 (.t 4) (.t 13))⟩,
    ⟨(some 5), none, (.mv (.t 14))⟩])
  (.seq (.seq (.reg [] [⟨(some 15), none, (.mv (.t 5))⟩,
    ⟨(some 16), none, (.un .not (.t 15))⟩])
  (.cond (.t 16) (.seq (.reg [] [⟨(some 2), none, (.mv (.k (.lit (.pointer none))))⟩,
    ⟨(some 3), none, (.mv (.k (.lit (.bool false))))⟩])
  .ret) .skip))
  (.seq (.reg [] [⟨(some 18), none, (.mv (.t 0))⟩,
    ⟨(some 19), none, (.iaa 3 1 (.t 4) (.k (.lit (.int .i64 0))))⟩,
    ⟨(some 20), none, (.ld false 1 (.t 19))⟩,
    ⟨(some 21), none, (.iaa 3 1 (.t 4) (.k (.lit (.int .i64 1))))⟩,
    ⟨(some 22), none, (.ld false 1 (.t 21))⟩,
    ⟨(some 23), none, (.iaa 3 1 (.t 4) (.k (.lit (.int .i64 2))))⟩,
    ⟨(some 24), none, (.ld false 1 (.t 23))⟩,
    ⟨(some 25), none, (.call 72 [(.t 18), (.t 20), (.t 22), (.t 24)])⟩,
    ⟨(some 17), none, (.mv (.t 25))⟩,
    ⟨(some 26), none, (.ext (.t 17) 0)⟩,
    ⟨(some 27), none, (.ext (.t 17) 1)⟩,
    ⟨(some 6), none, (.mv (.t 26))⟩,
    ⟨(some 7), none, (.mv (.t 27))⟩])
  (.seq (.reg [] [⟨(some 28), none, (.iaa 3 1 (.t 4) (.k (.lit (.int .i64 0))))⟩,
    ⟨(some 29), none, (.ld false 1 (.t 28))⟩,
    ⟨(some 8), none, (.mv (.t 29))⟩])
  (.seq (.seq (.reg [] [⟨(some 30), none, (.mv (.t 0))⟩,
    ⟨(some 31), none, (.len (.t 30))⟩,
    ⟨(some 32), none, (.mv (.k (.lit (.int .i64 0))))⟩])
  (.block 0 (.loop (.seq (.reg [] [⟨(some 33), none, (.bin .lss (.t 32) (.t 31))⟩])
  (.seq (.cond (.t 33) .skip (.exit 0))
  (.seq (.block 1 (.seq (.reg [] [⟨(some 34), none, (.mv (.t 32))⟩,
    ⟨(some 9), none, (.mv (.t 34))⟩])
  (.seq (.reg [] [⟨(some 35), none, (.mv (.t 9))⟩,
    ⟨(some 36), none, (.iaa 3 1 (.t 4) (.k (.lit (.int .i64 0))))⟩,
    ⟨(some 37), none, (.ld false 1 (.t 36))⟩,
    ⟨(some 38), none, (.bin .neq (.t 35) (.t 37))⟩,
    ⟨(some 39), none, (.mv (.t 38))⟩,
    ⟨(some 40), (some (39, true)), (.mv (.t 9))⟩,
    ⟨(some 41), (some (39, true)), (.iaa 3 1 (.t 4) (.k (.lit (.int .i64 1))))⟩,
    ⟨(some 42), (some (39, true)), (.ld false 1 (.t 41))⟩,
    ⟨(some 43), (some (39, true)), (.bin .neq (.t 40) (.t 42))⟩,
    ⟨(some 44), none, (.pick (.t 39) (.t 43) (.k (.lit (.bool false))))⟩,
    ⟨(some 45), none, (.mv (.t 44))⟩,
    ⟨(some 46), (some (45, true)), (.mv (.t 9))⟩,
    ⟨(some 47), (some (45, true)), (.iaa 3 1 (.t 4) (.k (.lit (.int .i64 2))))⟩,
    ⟨(some 48), (some (45, true)), (.ld false 1 (.t 47))⟩,
    ⟨(some 49), (some (45, true)), (.bin .neq (.t 46) (.t 48))⟩,
    ⟨(some 50), none, (.pick (.t 45) (.t 49) (.k (.lit (.bool false))))⟩])
  (.cond (.t 50) (.seq (.reg [] [⟨(some 51), none, (.mv (.t 6))⟩,
    ⟨(some 52), none, (.mv (.t 9))⟩,
    ⟨(some 53), none, (.mv (.t 6))⟩,
    ⟨(some 54), none, (.mv (.t 8))⟩,
    ⟨(some 55), none, (.call 74 [(.t 53), (.t 54)])⟩,
    ⟨(some 56), none, (.call 73 [(.t 51), (.t 52), (.t 55)])⟩])
  (.reg [] [⟨(some 57), none, (.mv (.t 9))⟩,
    ⟨(some 8), none, (.mv (.t 57))⟩])) .skip))))
  (.reg [] [⟨(some 58), none, (.bin .add (.t 32) (.k (.lit (.int .i64 1))))⟩,
    ⟨(some 32), none, (.mv (.t 58))⟩])))))))
  (.seq (.reg [] [⟨(some 59), none, (.mv (.t 6))⟩,
    ⟨(some 2), none, (.mv (.t 59))⟩,
    ⟨(some 3), none, (.mv (.k (.lit (.bool true))))⟩])
  .ret))))))), [(.tmp 2), (.tmp 3)], [], false⟩
theorem fo39 : compF Tryz.prog 39 = some ⟨fe39.N, fe39.xc.er, fe39.rs⟩ := by kernel_rfl
theorem ox39 : okX fe39.xc = true := by kernel_rfl
theorem hb39 : hasBody Tryz.prog 39 = true := by kernel_rfl
theorem fk39 : FEOK Tryz.prog 39 fe39 := ⟨fo39, ox39, hb39⟩

/-- isohyet/walk.Look -/
def fe40 : FE := ⟨66, (.seq (.reg [] [⟨(some 2), none, (.box (.t 0))⟩,
    ⟨(some 3), none, (.box (.t 1))⟩,
    ⟨(some 4), none, (.new [(.lit (.int .i64 0)), (.lit (.int .i64 0)), (.lit (.int .i64 0)), (.lit (.int .i64 0))])⟩])
  (.seq (.seq (.reg [] [⟨(some 11), none, (.ld false 1 (.t 2))⟩,
    ⟨(some 12), none, (.call 75 [(.t 11)])⟩])
  (.block 0 (.rng (.t 12) [13, 14] (.reg [] [⟨(some 5), none, (.mv (.t 13))⟩]) (.block 1 (.seq (.reg [] [⟨(some 15), none, (.ld false 1 (.t 2))⟩,
    ⟨(some 16), none, (.mv (.t 5))⟩,
    ⟨(some 17), none, (.ld true 2 (.t 3))⟩,
    ⟨(some 18), none, (.call 76 [(.t 15), (.t 16), (.t 17)])⟩])
  (.cond (.t 18) (.seq (.reg [] [⟨(some 19), none, (.ld false 1 (.t 2))⟩,
    ⟨(some 20), none, (.mv (.t 5))⟩,
    ⟨(some 21), none, (.ld true 2 (.t 3))⟩,
    ⟨(some 22), none, (.call 77 [(.t 19), (.t 20), (.t 21)])⟩,
    ⟨none, none, (.st 4 (.t 4) (.t 22))⟩])
  .ret) .skip))))))
  (.seq (.reg [] [⟨(some 23), none, (.bld [(.lit (.int .i64 0)), (.lit (.int .i64 0)), (.lit (.int .i64 0)), (.lit (.int .i64 0))] [(0, (1, (.k (.lit (.int .i64 3))))), (1, (1, (.k (.lit (.int .i64 (-1))))))])⟩,
    ⟨(some 6), none, (.new [(.lit (.int .i64 0)), (.lit (.int .i64 0)), (.lit (.int .i64 0)), (.lit (.int .i64 0))])⟩,
    ⟨none, none, (.st 4 (.t 6) (.t 23))⟩])
  (.seq (.seq (.reg [] [⟨(some 24), none, (.ld false 1 (.t 2))⟩,
    ⟨(some 25), none, (.call 75 [(.t 24)])⟩])
  (.block 2 (.rng (.t 25) [26, 27] (.seq (.reg [] [⟨(some 7), none, (.mv (.t 26))⟩])
  (.reg [8] [⟨(some 8), none, (.new [(.lit (.int .i64 0)), (.lit (.int .i64 0)), (.lit (.int .i64 0)), (.lit (.int .i64 0)), (.lit (.int .i64 0)), (.lit (.int .i64 0)), (.lit (.bool false)), (.lit (.bool false)), (.lit (.bool false))])⟩,
    ⟨none, none, (.st 9 (.t 8) (.t 27))⟩])) (.block 3 (.seq (.reg [] [⟨(some 28), none, (.fad 3 (.t 8))⟩,
    ⟨(some 29), none, (.ld true 3 (.t 28))⟩,
    ⟨(some 30), none, (.mv (.k (.lit (.int .i64 0))))⟩])
  (.block 4 (.loop (.seq (.reg [] [⟨(some 31), none, (.bin .lss (.t 30) (.k (.lit (.int .i64 3))))⟩])
  (.seq (.cond (.t 31) .skip (.exit 4))
  (.seq (.block 5 (.seq (.reg [] [⟨(some 32), none, (.mv (.t 30))⟩,
    ⟨(some 33), none, (.ixa 3 1 false (.t 29) (.t 30))⟩,
    ⟨(some 9), none, (.mv (.t 32))⟩,
    ⟨(some 10), none, (.mv (.t 33))⟩])
  (.seq (.regd [] [[], [], [0, 1], [2], [3, 2], [4], [4], [6, 4], [7, 4], [8, 4], [4], [9, 10, 4], [11, 4], [4], [4], [5, 12, 13, 14, 4, 4], [4, 15], [16, 15], [17], [18, 17], [19, 17], [20, 17, 17], [21], [21], [23, 21], [22, 24, 21], [21, 25, 17], [17, 26]] [(⟨(some 34), none, (.ld false 1 (.t 2))⟩, ⟨[], none, true, false⟩),
    (⟨(some 35), none, (.mv (.t 10))⟩, ⟨[], none, false, false⟩),
    (⟨(some 36), none, (.call 50 [(.t 34), (.t 35)])⟩, ⟨[], none, true, false⟩),
    (⟨(some 37), none, (.un .not (.t 36))⟩, ⟨[], none, false, false⟩),
    (⟨(some 38), none, (.mv (.t 37))⟩, ⟨[], none, false, false⟩),
    (⟨(some 39), (some (38, true)), (.ld false 1 (.t 2))⟩, ⟨[], none, true, false⟩),
    (⟨(some 40), (some (38, true)), (.ld false 1 (.t 2))⟩, ⟨[], none, true, false⟩),
    (⟨(some 41), (some (38, true)), (.nck (.t 40))⟩, ⟨[], none, false, false⟩),
    (⟨(some 42), (some (38, true)), (.fad 1 (.t 41))⟩, ⟨[], none, false, false⟩),
    (⟨(some 43), (some (38, true)), (.ld false 1 (.t 42))⟩, ⟨[], none, true, false⟩),
    (⟨(some 44), (some (38, true)), (.mv (.t 7))⟩, ⟨[], none, false, false⟩),
    (⟨(some 45), (some (38, true)), (.iad 9 (.t 43) (.t 44))⟩, ⟨[], none, false, false⟩),
    (⟨(some 46), (some (38, true)), (.ld true 9 (.t 45))⟩, ⟨[], none, true, false⟩),
    (⟨(some 47), (some (38, true)), (.mv (.t 9))⟩, ⟨[], none, false, false⟩),
    (⟨(some 48), (some (38, true)), (.ld true 2 (.t 3))⟩, ⟨[], none, true, false⟩),
    (⟨(some 49), (some (38, true)), (.call 78 [(.t 39), (.t 46), (.t 47), (.t 48)])⟩, ⟨[], none, true, false⟩),
    (⟨(some 50), none, (.pick (.t 38) (.t 49) (.k (.lit (.bool false))))⟩, ⟨[], none, false, false⟩),
    (⟨(some 51), none, (.mv (.t 50))⟩, ⟨[], none, false, false⟩),
    (⟨(some 52), (some (51, true)), (.fad 1 (.t 6))⟩, ⟨[], none, false, false⟩),
    (⟨(some 53), (some (51, true)), (.ld false 1 (.t 52))⟩, ⟨[], none, true, false⟩),
    (⟨(some 54), (some (51, true)), (.bin .lss (.t 53) (.k (.lit (.int .i64 0))))⟩, ⟨[], none, false, false⟩),
    (⟨(some 55), (some (51, true)), (.mv (.t 54))⟩, ⟨[], none, false, false⟩),
    (⟨(some 56), (some (55, false)), (.mv (.t 10))⟩, ⟨[], none, false, false⟩),
    (⟨(some 57), (some (55, false)), (.fad 1 (.t 6))⟩, ⟨[], none, false, false⟩),
    (⟨(some 58), (some (55, false)), (.ld false 1 (.t 57))⟩, ⟨[], none, true, false⟩),
    (⟨(some 59), (some (55, false)), (.bin .lss (.t 56) (.t 58))⟩, ⟨[], none, false, false⟩),
    (⟨(some 60), (some (51, true)), (.pick (.t 55) (.k (.lit (.bool true))) (.t 59))⟩, ⟨[], none, false, false⟩),
    (⟨(some 61), none, (.pick (.t 51) (.t 60) (.k (.lit (.bool false))))⟩, ⟨[], none, false, false⟩)])
  (.cond (.t 61) (.reg [] [⟨(some 62), none, (.mv (.t 10))⟩,
    ⟨(some 63), none, (.fad 1 (.t 6))⟩,
    ⟨none, none, (.st 1 (.t 63) (.t 62))⟩]) .skip))))
  (.reg [] [⟨(some 64), none, (.bin .add (.t 30) (.k (.lit (.int .i64 1))))⟩,
    ⟨(some 30), none, (.mv (.t 64))⟩])))))))))))
  (.seq (.reg [] [⟨(some 65), none, (.ld true 4 (.t 6))⟩,
    ⟨none, none, (.st 4 (.t 4) (.t 65))⟩])
  .ret))))), [(.cell 4 true 4)], [2, 3, 4, 6], true⟩
theorem fo40 : compF Tryz.prog 40 = some ⟨fe40.N, fe40.xc.er, fe40.rs⟩ := by kernel_rfl
theorem ox40 : okX fe40.xc = true := by kernel_rfl
theorem hb40 : hasBody Tryz.prog 40 = true := by kernel_rfl
theorem fk40 : FEOK Tryz.prog 40 fe40 := ⟨fo40, ox40, hb40⟩

/-- isohyet/frac.Cmp -/
def fe43 : FE := ⟨30, (.seq (.reg [2, 3] [⟨(some 2), none, (.box (.t 0))⟩,
    ⟨(some 3), none, (.box (.t 1))⟩,
    ⟨(some 4), none, (.mv (.k (.lit (.int .i64 0))))⟩])
  (.seq (.regd [] [[], [0], [], [2, 1], [1, 3, 0, 1], [3, 4, 0, 1, 2, 3, 4]] [(⟨(some 7), none, (.ld true 3 (.t 2))⟩, ⟨[2], none, false, false⟩),
    (⟨(some 8), none, (.call 27 [(.t 7)])⟩, ⟨[], none, true, false⟩),
    (⟨(some 9), none, (.ld true 3 (.t 3))⟩, ⟨[3], none, false, false⟩),
    (⟨(some 10), none, (.call 27 [(.t 9)])⟩, ⟨[], none, true, false⟩),
    (⟨(some 5), none, (.mv (.t 8))⟩, ⟨[], none, false, false⟩),
    (⟨(some 6), none, (.mv (.t 10))⟩, ⟨[], none, false, false⟩)])
  (.seq (.seq (.reg [] [⟨(some 11), none, (.mv (.t 5))⟩,
    ⟨(some 12), none, (.mv (.t 6))⟩,
    ⟨(some 13), none, (.bin .neq (.t 11) (.t 12))⟩])
  (.cond (.t 13) (.seq (.reg [] [⟨(some 14), none, (.mv (.t 5))⟩,
    ⟨(some 15), none, (.call 45 [(.t 14)])⟩,
    ⟨(some 16), none, (.mv (.t 6))⟩,
    ⟨(some 17), none, (.call 45 [(.t 16)])⟩,
    ⟨(some 18), none, (.call 80 [(.t 15), (.t 17)])⟩,
    ⟨(some 4), none, (.mv (.t 18))⟩])
  .ret) .skip))
  (.seq (.regd [] [[], [0], [], [2], [1, 3, 3], [], [5], [], [7, 4], [6, 8, 8], [4, 9, 9], [10, 10, 0, 1, 2, 3, 4, 5, 6, 7, 8, 9, 10]] [(⟨(some 19), none, (.fad 0 (.t 2))⟩, ⟨[2], none, false, false⟩),
    (⟨(some 20), none, (.ld true 2 (.t 19))⟩, ⟨[2], none, false, false⟩),
    (⟨(some 21), none, (.ld true 3 (.t 3))⟩, ⟨[3], none, false, false⟩),
    (⟨(some 22), none, (.call 65 [(.t 21)])⟩, ⟨[], none, true, false⟩),
    (⟨(some 23), none, (.call 56 [(.t 20), (.t 22)])⟩, ⟨[], none, true, false⟩),
    (⟨(some 24), none, (.fad 0 (.t 3))⟩, ⟨[3], none, false, false⟩),
    (⟨(some 25), none, (.ld true 2 (.t 24))⟩, ⟨[3], none, false, false⟩),
    (⟨(some 26), none, (.ld true 3 (.t 2))⟩, ⟨[2], none, false, false⟩),
    (⟨(some 27), none, (.call 65 [(.t 26)])⟩, ⟨[], none, true, false⟩),
    (⟨(some 28), none, (.call 56 [(.t 25), (.t 27)])⟩, ⟨[], none, true, false⟩),
    (⟨(some 29), none, (.call 80 [(.t 23), (.t 28)])⟩, ⟨[], none, true, false⟩),
    (⟨(some 4), none, (.mv (.t 29))⟩, ⟨[], none, false, false⟩)])
  .ret)))), [(.tmp 4)], [], true⟩
theorem fo43 : compF Tryz.prog 43 = some ⟨fe43.N, fe43.xc.er, fe43.rs⟩ := by kernel_rfl
theorem ox43 : okX fe43.xc = true := by kernel_rfl
theorem hb43 : hasBody Tryz.prog 43 = true := by kernel_rfl
theorem fk43 : FEOK Tryz.prog 43 fe43 := ⟨fo43, ox43, hb43⟩

/-- isohyet/frac.Whole -/
def fe44 : FE := ⟨6, (.seq (.reg [1, 2] [⟨(some 1), none, (.box (.t 0))⟩,
    ⟨(some 2), none, (.new [(.lit (.bool false)), (.lit (.slice none 0 0)), (.lit (.slice none 0 0))])⟩])
  (.seq (.regd [] [[], [], [0, 1, 1], [2, 2, 0, 1, 2]] [(⟨(some 3), none, (.ld true 2 (.t 1))⟩, ⟨[1], none, false, false⟩),
    (⟨(some 4), none, (.call 81 [])⟩, ⟨[], none, true, false⟩),
    (⟨(some 5), none, (.call 60 [(.t 3), (.t 4)])⟩, ⟨[], none, true, false⟩),
    (⟨none, none, (.st 3 (.t 2) (.t 5))⟩, ⟨[2], some 2, false, false⟩)])
  .ret)), [(.cell 2 true 3)], [], true⟩
theorem fo44 : compF Tryz.prog 44 = some ⟨fe44.N, fe44.xc.er, fe44.rs⟩ := by kernel_rfl
theorem ox44 : okX fe44.xc = true := by kernel_rfl
theorem hb44 : hasBody Tryz.prog 44 = true := by kernel_rfl
theorem fk44 : FEOK Tryz.prog 44 fe44 := ⟨fo44, ox44, hb44⟩

/-- isohyet/num.Of -/
def fe45 : FE := ⟨14, (.seq (.reg [2] [⟨(some 2), none, (.new [(.lit (.bool false)), (.lit (.slice none 0 0))])⟩])
  (.seq (.seq (.reg [] [⟨(some 3), none, (.mv (.t 0))⟩,
    ⟨(some 4), none, (.bin .lss (.t 3) (.k (.lit (.int .i64 0))))⟩])
  (.cond (.t 4) (.seq (.reg [] [⟨(some 5), none, (.mv (.t 0))⟩,
    ⟨(some 6), none, (.cv .u64 (.t 5))⟩,
    ⟨(some 7), none, (.un .neg (.t 6))⟩,
    ⟨(some 8), none, (.call 82 [(.t 7)])⟩,
    ⟨(some 9), none, (.bld [(.lit (.bool false)), (.lit (.slice none 0 0))] [(0, (1, (.k (.lit (.bool true))))), (1, (1, (.t 8)))])⟩,
    ⟨none, none, (.st 2 (.t 2) (.t 9))⟩])
  .ret) .skip))
  (.seq (.reg [] [⟨(some 10), none, (.mv (.t 0))⟩,
    ⟨(some 11), none, (.cv .u64 (.t 10))⟩,
    ⟨(some 12), none, (.call 82 [(.t 11)])⟩,
    ⟨(some 13), none, (.bld [(.lit (.bool false)), (.lit (.slice none 0 0))] [(0, (1, (.k (.lit (.bool false))))), (1, (1, (.t 12)))])⟩,
    ⟨none, none, (.st 2 (.t 2) (.t 13))⟩])
  .ret))), [(.cell 2 true 2)], [], true⟩
theorem fo45 : compF Tryz.prog 45 = some ⟨fe45.N, fe45.xc.er, fe45.rs⟩ := by kernel_rfl
theorem ox45 : okX fe45.xc = true := by kernel_rfl
theorem hb45 : hasBody Tryz.prog 45 = true := by kernel_rfl
theorem fk45 : FEOK Tryz.prog 45 fe45 := ⟨fo45, ox45, hb45⟩

/-- (*isohyet/mesh.Mesh).Find -/
def fe49 : FE := ⟨58, (.seq (.reg [] [⟨(some 3), none, (.box (.t 0))⟩,
    ⟨(some 4), none, (.box (.t 1))⟩,
    ⟨(some 5), none, (.box (.t 2))⟩,
    ⟨(some 6), none, (.new [(.lit (.int .i64 0))])⟩,
    ⟨(some 7), none, (.new [(.lit (.int .i64 0))])⟩,
    ⟨(some 8), none, (.new [(.lit (.bool false))])⟩])
  (.seq (.reg [] [⟨(some 13), none, (.ld false 1 (.t 4))⟩,
    ⟨(some 14), none, (.ld false 1 (.t 5))⟩,
    ⟨(some 15), none, (.mnx true [(.t 13), (.t 14)])⟩,
    ⟨(some 9), none, (.mv (.t 15))⟩])
  (.seq (.seq (.reg [] [⟨(some 16), none, (.mv (.t 9))⟩,
    ⟨(some 17), none, (.bin .lss (.t 16) (.k (.lit (.int .i64 0))))⟩,
    ⟨(some 18), none, (.mv (.t 17))⟩,
    ⟨(some 19), (some (18, false)), (.ld false 1 (.t 4))⟩,
    ⟨(some 20), (some (18, false)), (.ld false 1 (.t 5))⟩,
    ⟨(some 21), (some (18, false)), (.bin .eql (.t 19) (.t 20))⟩,
    ⟨(some 22), none, (.pick (.t 18) (.k (.lit (.bool true))) (.t 21))⟩])
  (.cond (.t 22) (.seq (.reg [] [⟨none, none, (.st 1 (.t 6) (.k (.lit (.int .i64 (-1)))))⟩,
    ⟨none, none, (.st 1 (.t 7) (.k (.lit (.int .i64 0))))⟩,
    ⟨none, none, (.st 1 (.t 8) (.k (.lit (.bool false))))⟩])
  .ret) .skip))
  (.seq (.seq (.reg [] [⟨(some 23), none, (.ld false 1 (.t 3))⟩,
    ⟨(some 24), none, (.mv (.t 9))⟩,
    ⟨(some 25), none, (.call 88 [(.t 23), (.t 24)])⟩])
  (.block 0 (.rng (.t 25) [26, 27] (.reg [] [⟨(some 10), none, (.mv (.t 26))⟩]) (.block 1 (.seq (.reg [] [⟨(some 28), none, (.mv (.k (.lit (.int .i64 0))))⟩])
  (.block 2 (.loop (.seq (.reg [] [⟨(some 29), none, (.bin .lss (.t 28) (.k (.lit (.int .i64 3))))⟩])
  (.seq (.cond (.t 29) .skip (.exit 2))
  (.seq (.block 3 (.seq (.reg [] [⟨(some 30), none, (.mv (.t 28))⟩,
    ⟨(some 11), none, (.mv (.t 30))⟩])
  (.seq (.reg [12] [⟨(some 31), none, (.ld false 1 (.t 3))⟩,
    ⟨(some 32), none, (.nck (.t 31))⟩,
    ⟨(some 33), none, (.fad 1 (.t 32))⟩,
    ⟨(some 34), none, (.ld false 1 (.t 33))⟩,
    ⟨(some 35), none, (.mv (.t 10))⟩,
    ⟨(some 36), none, (.iad 9 (.t 34) (.t 35))⟩,
    ⟨(some 37), none, (.fad 0 (.t 36))⟩,
    ⟨(some 38), none, (.ld true 3 (.t 37))⟩,
    ⟨(some 12), none, (.new [(.lit (.int .i64 0)), (.lit (.int .i64 0)), (.lit (.int .i64 0))])⟩,
    ⟨none, none, (.st 3 (.t 12) (.t 38))⟩])
  (.seq (.regd [] [[], [0], [1], [2], [3], [], [4, 5], [6], [7], [8, 7], [9, 7], [10, 7], [11, 7], [7], [12, 13, 7], [7, 14]] [(⟨(some 39), none, (.mv (.t 11))⟩, ⟨[], none, false, false⟩),
    (⟨(some 40), none, (.bin .add (.t 39) (.k (.lit (.int .i64 1))))⟩, ⟨[], none, false, false⟩),
    (⟨(some 41), none, (.bin .rem (.t 40) (.k (.lit (.int .i64 3))))⟩, ⟨[], none, false, false⟩),
    (⟨(some 42), none, (.iaa 3 1 (.t 12) (.t 41))⟩, ⟨[12], none, false, false⟩),
    (⟨(some 43), none, (.ld false 1 (.t 42))⟩, ⟨[12], none, false, false⟩),
    (⟨(some 44), none, (.ld false 1 (.t 4))⟩, ⟨[], none, true, false⟩),
    (⟨(some 45), none, (.bin .eql (.t 43) (.t 44))⟩, ⟨[], none, false, false⟩),
    (⟨(some 46), none, (.mv (.t 45))⟩, ⟨[], none, false, false⟩),
    (⟨(some 47), (some (46, true)), (.mv (.t 11))⟩, ⟨[], none, false, false⟩),
    (⟨(some 48), (some (46, true)), (.bin .add (.t 47) (.k (.lit (.int .i64 2))))⟩, ⟨[], none, false, false⟩),
    (⟨(some 49), (some (46, true)), (.bin .rem (.t 48) (.k (.lit (.int .i64 3))))⟩, ⟨[], none, false, false⟩),
    (⟨(some 50), (some (46, true)), (.iaa 3 1 (.t 12) (.t 49))⟩, ⟨[12], none, false, false⟩),
    (⟨(some 51), (some (46, true)), (.ld false 1 (.t 50))⟩, ⟨[12], none, false, false⟩),
    (⟨(some 52), (some (46, true)), (.ld false 1 (.t 5))⟩, ⟨[], none, true, false⟩),
    (⟨(some 53), (some (46, true)), (.bin .eql (.t 51) (.t 52))⟩, ⟨[], none, false, false⟩),
    (⟨(some 54), none, (.pick (.t 46) (.t 53) (.k (.lit (.bool false))))⟩, ⟨[], none, false, false⟩)])
  (.cond (.t 54) (.seq (.reg [] [⟨(some 55), none, (.mv (.t 10))⟩,
    ⟨(some 56), none, (.mv (.t 11))⟩,
    ⟨none, none, (.st 1 (.t 6) (.t 55))⟩,
    ⟨none, none, (.st 1 (.t 7) (.t 56))⟩,
    ⟨none, none, (.st 1 (.t 8) (.k (.lit (.bool true))))⟩])
  .ret) .skip)))))
  (.reg [] [⟨(some 57), none, (.bin .add (.t 28) (.k (.lit (.int .i64 1))))⟩,
    ⟨(some 28), none, (.mv (.t 57))⟩])))))))))))
  (.seq (.reg [] [⟨none, none, (.st 1 (.t 6) (.k (.lit (.int .i64 (-1)))))⟩,
    ⟨none, none, (.st 1 (.t 7) (.k (.lit (.int .i64 0))))⟩,
    ⟨none, none, (.st 1 (.t 8) (.k (.lit (.bool false))))⟩])
  .ret))))), [(.cell 6 false 1), (.cell 7 false 1), (.cell 8 false 1)], [3, 4, 5, 6, 7, 8], true⟩
theorem fo49 : compF Tryz.prog 49 = some ⟨fe49.N, fe49.xc.er, fe49.rs⟩ := by kernel_rfl
theorem ox49 : okX fe49.xc = true := by kernel_rfl
theorem hb49 : hasBody Tryz.prog 49 = true := by kernel_rfl
theorem fk49 : FEOK Tryz.prog 49 fe49 := ⟨fo49, ox49, hb49⟩

/-- (*isohyet/mesh.Mesh).Real -/
def fe50 : FE := ⟨38, (.seq (.reg [] [⟨(some 4), none, (.mv (.k (.lit (.bool false))))⟩])
  (.seq (.seq (.reg [] [⟨(some 6), none, (.mv (.t 1))⟩,
    ⟨(some 7), none, (.bin .lss (.t 6) (.k (.lit (.int .i64 0))))⟩,
    ⟨(some 8), none, (.mv (.t 7))⟩,
    ⟨(some 9), (some (8, false)), (.mv (.t 1))⟩,
    ⟨(some 10), (some (8, false)), (.mv (.t 0))⟩,
    ⟨(some 11), (some (8, false)), (.nck (.t 10))⟩,
    ⟨(some 12), (some (8, false)), (.fad 1 (.t 11))⟩,
    ⟨(some 13), (some (8, false)), (.ld false 1 (.t 12))⟩,
    ⟨(some 14), (some (8, false)), (.len (.t 13))⟩,
    ⟨(some 15), (some (8, false)), (.bin .geq (.t 9) (.t 14))⟩,
    ⟨(some 16), none, (.pick (.t 8) (.k (.lit (.bool true))) (.t 15))⟩])
  (.cond (.t 16) (.seq (.reg [] [⟨(some 4), none, (.mv (.k (.lit (.bool false))))⟩])
  .ret) .skip))
  (.seq (.reg [5] [⟨(some 17), none, (.mv (.t 0))⟩,
    ⟨(some 18), none, (.nck (.t 17))⟩,
    ⟨(some 19), none, (.fad 1 (.t 18))⟩,
    ⟨(some 20), none, (.ld false 1 (.t 19))⟩,
    ⟨(some 21), none, (.mv (.t 1))⟩,
    ⟨(some 22), none, (.iad 9 (.t 20) (.t 21))⟩,
    ⟨(some 23), none, (.fad 0 (.t 22))⟩,
    ⟨(some 24), none, (.ld true 3 (.t 23))⟩,
    ⟨(some 5), none, (.new [(.lit (.int .i64 0)), (.lit (.int .i64 0)), (.lit (.int .i64 0))])⟩,
    ⟨none, none, (.st 3 (.t 5) (.t 24))⟩])
  (.seq (.reg [] [⟨(some 25), none, (.iaa 3 1 (.t 5) (.k (.lit (.int .i64 0))))⟩,
    ⟨(some 26), none, (.ld false 1 (.t 25))⟩,
    ⟨(some 27), none, (.bin .geq (.t 26) (.k (.lit (.int .i64 0))))⟩,
    ⟨(some 28), none, (.mv (.t 27))⟩,
    ⟨(some 29), (some (28, true)), (.iaa 3 1 (.t 5) (.k (.lit (.int .i64 1))))⟩,
    ⟨(some 30), (some (28, true)), (.ld false 1 (.t 29))⟩,
    ⟨(some 31), (some (28, true)), (.bin .geq (.t 30) (.k (.lit (.int .i64 0))))⟩,
    ⟨(some 32), none, (.pick (.t 28) (.t 31) (.k (.lit (.bool false))))⟩,
    ⟨(some 33), none, (.mv (.t 32))⟩,
    ⟨(some 34), (some (33, true)), (.iaa 3 1 (.t 5) (.k (.lit (.int .i64 2))))⟩,
    ⟨(some 35), (some (33, true)), (.ld false 1 (.t 34))⟩,
    ⟨(some 36), (some (33, true)), (.bin .geq (.t 35) (.k (.lit (.int .i64 0))))⟩,
    ⟨(some 37), none, (.pick (.t 33) (.t 36) (.k (.lit (.bool false))))⟩,
    ⟨(some 4), none, (.mv (.t 37))⟩])
  .ret)))), [(.tmp 4)], [], true⟩
theorem fo50 : compF Tryz.prog 50 = some ⟨fe50.N, fe50.xc.er, fe50.rs⟩ := by kernel_rfl
theorem ox50 : okX fe50.xc = true := by kernel_rfl
theorem hb50 : hasBody Tryz.prog 50 = true := by kernel_rfl
theorem fk50 : FEOK Tryz.prog 50 fe50 := ⟨fo50, ox50, hb50⟩

/-- isohyet/cavity.across -/
def fe51 : FE := ⟨40, (.seq (.reg [] [⟨(some 8), none, (.mv (.k (.lit (.int .i64 0))))⟩])
  (.seq (.reg [9] [⟨(some 11), none, (.mv (.t 0))⟩,
    ⟨(some 12), none, (.nck (.t 11))⟩,
    ⟨(some 13), none, (.fad 1 (.t 12))⟩,
    ⟨(some 14), none, (.ld false 1 (.t 13))⟩,
    ⟨(some 15), none, (.mv (.t 1))⟩,
    ⟨(some 16), none, (.iad 9 (.t 14) (.t 15))⟩,
    ⟨(some 17), none, (.ld true 9 (.t 16))⟩,
    ⟨(some 9), none, (.new [(.lit (.int .i64 0)), (.lit (.int .i64 0)), (.lit (.int .i64 0)), (.lit (.int .i64 0)), (.lit (.int .i64 0)), (.lit (.int .i64 0)), (.lit (.bool false)), (.lit (.bool false)), (.lit (.bool false))])⟩,
    ⟨none, none, (.st 9 (.t 9) (.t 17))⟩])
  (.seq (.seq (.reg [] [⟨(some 18), none, (.mv (.k (.lit (.int .i64 0))))⟩])
  (.block 0 (.loop (.seq (.reg [] [⟨(some 19), none, (.bin .lss (.t 18) (.k (.lit (.int .i64 3))))⟩])
  (.seq (.cond (.t 19) .skip (.exit 0))
  (.seq (.block 1 (.seq (.reg [] [⟨(some 20), none, (.mv (.t 18))⟩,
    ⟨(some 10), none, (.mv (.t 20))⟩])
  (.seq (.reg [] [⟨(some 21), none, (.mv (.t 10))⟩,
    ⟨(some 22), none, (.fad 0 (.t 9))⟩,
    ⟨(some 23), none, (.iaa 3 1 (.t 22) (.t 21))⟩,
    ⟨(some 24), none, (.ld false 1 (.t 23))⟩,
    ⟨(some 25), none, (.mv (.t 2))⟩,
    ⟨(some 26), none, (.bin .neq (.t 24) (.t 25))⟩,
    ⟨(some 27), none, (.mv (.t 26))⟩,
    ⟨(some 28), (some (27, true)), (.mv (.t 10))⟩,
    ⟨(some 29), (some (27, true)), (.fad 0 (.t 9))⟩,
    ⟨(some 30), (some (27, true)), (.iaa 3 1 (.t 29) (.t 28))⟩,
    ⟨(some 31), (some (27, true)), (.ld false 1 (.t 30))⟩,
    ⟨(some 32), (some (27, true)), (.mv (.t 3))⟩,
    ⟨(some 33), (some (27, true)), (.bin .neq (.t 31) (.t 32))⟩,
    ⟨(some 34), none, (.pick (.t 27) (.t 33) (.k (.lit (.bool false))))⟩])
  (.cond (.t 34) (.seq (.reg [] [⟨(some 35), none, (.mv (.t 10))⟩,
    ⟨(some 36), none, (.fad 3 (.t 9))⟩,
    ⟨(some 37), none, (.iaa 3 1 (.t 36) (.t 35))⟩,
    ⟨(some 38), none, (.ld false 1 (.t 37))⟩,
    ⟨(some 8), none, (.mv (.t 38))⟩])
  .ret) .skip))))
  (.reg [] [⟨(some 39), none, (.bin .add (.t 18) (.k (.lit (.int .i64 1))))⟩,
    ⟨(some 18), none, (.mv (.t 39))⟩])))))))
  (.seq (.reg [] [⟨(some 8), none, (.mv (.k (.lit (.int .i64 (-1)))))⟩])
  .ret)))), [(.tmp 8)], [], true⟩
theorem fo51 : compF Tryz.prog 51 = some ⟨fe51.N, fe51.xc.er, fe51.rs⟩ := by kernel_rfl
theorem ox51 : okX fe51.xc = true := by kernel_rfl
theorem hb51 : hasBody Tryz.prog 51 = true := by kernel_rfl
theorem fk51 : FEOK Tryz.prog 51 fe51 := ⟨fo51, ox51, hb51⟩

/-- isohyet/cavity.Conflict -/
def fe52 : FE := ⟨87, (.seq (.reg [5] [⟨(some 5), none, (.box (.t 2))⟩,
    ⟨(some 6), none, (.mv (.k (.lit (.bool false))))⟩])
  (.seq (.reg [7] [⟨(some 11), none, (.mv (.t 0))⟩,
    ⟨(some 12), none, (.nck (.t 11))⟩,
    ⟨(some 13), none, (.fad 1 (.t 12))⟩,
    ⟨(some 14), none, (.ld false 1 (.t 13))⟩,
    ⟨(some 15), none, (.mv (.t 1))⟩,
    ⟨(some 16), none, (.iad 9 (.t 14) (.t 15))⟩,
    ⟨(some 17), none, (.fad 0 (.t 16))⟩,
    ⟨(some 18), none, (.ld true 3 (.t 17))⟩,
    ⟨(some 7), none, (.new [(.lit (.int .i64 0)), (.lit (.int .i64 0)), (.lit (.int .i64 0))])⟩,
    ⟨none, none, (.st 3 (.t 7) (.t 18))⟩])
  (.seq (.seq (.reg [] [⟨(some 19), none, (.mv (.k (.lit (.int .i64 0))))⟩])
  (.block 0 (.loop (.seq (.reg [] [⟨(some 20), none, (.bin .lss (.t 19) (.k (.lit (.int .i64 3))))⟩])
  (.seq (.cond (.t 20) .skip (.exit 0))
  (.seq (.block 1 (.seq (.reg [] [⟨(some 21), none, (.mv (.t 19))⟩,
    ⟨(some 8), none, (.mv (.t 21))⟩])
  (.seq (.seq (.reg [] [⟨(some 22), none, (.mv (.t 8))⟩,
    ⟨(some 23), none, (.iaa 3 1 (.t 7) (.t 22))⟩,
    ⟨(some 24), none, (.ld false 1 (.t 23))⟩,
    ⟨(some 25), none, (.bin .neq (.t 24) (.k (.lit (.int .i64 (-1)))))⟩])
  (.cond (.t 25) (.exit 1) .skip))
  (.seq (.regd [9, 10] [[], [0], [1], [2], [], [4], [5], [6], [7], [3, 8], [9], [], [11], [12], [13], [], [15], [16], [17], [18], [14, 19], [20], [], [], [22, 10, 0, 1, 2, 3, 4, 5, 6, 7, 8, 9, 10, 22, 23], [23, 21, 24, 0, 1, 2, 3, 4, 5, 6, 7, 8, 9, 10, 11, 12, 13, 14, 15, 16, 17, 18, 19, 20, 21, 22, 23, 24]] [(⟨(some 26), none, (.mv (.t 0))⟩, ⟨[], none, false, false⟩),
    (⟨(some 27), none, (.nck (.t 26))⟩, ⟨[], none, false, false⟩),
    (⟨(some 28), none, (.fad 0 (.t 27))⟩, ⟨[], none, false, false⟩),
    (⟨(some 29), none, (.ld false 1 (.t 28))⟩, ⟨[], none, true, false⟩),
    (⟨(some 30), none, (.mv (.t 8))⟩, ⟨[], none, false, false⟩),
    (⟨(some 31), none, (.bin .add (.t 30) (.k (.lit (.int .i64 1))))⟩, ⟨[], none, false, false⟩),
    (⟨(some 32), none, (.bin .rem (.t 31) (.k (.lit (.int .i64 3))))⟩, ⟨[], none, false, false⟩),
    (⟨(some 33), none, (.iaa 3 1 (.t 7) (.t 32))⟩, ⟨[7], none, false, false⟩),
    (⟨(some 34), none, (.ld false 1 (.t 33))⟩, ⟨[7], none, false, false⟩),
    (⟨(some 35), none, (.iad 2 (.t 29) (.t 34))⟩, ⟨[], none, false, false⟩),
    (⟨(some 36), none, (.ld true 2 (.t 35))⟩, ⟨[], none, true, false⟩),
    (⟨(some 37), none, (.mv (.t 0))⟩, ⟨[], none, false, false⟩),
    (⟨(some 38), none, (.nck (.t 37))⟩, ⟨[], none, false, false⟩),
    (⟨(some 39), none, (.fad 0 (.t 38))⟩, ⟨[], none, false, false⟩),
    (⟨(some 40), none, (.ld false 1 (.t 39))⟩, ⟨[], none, true, false⟩),
    (⟨(some 41), none, (.mv (.t 8))⟩, ⟨[], none, false, false⟩),
    (⟨(some 42), none, (.bin .add (.t 41) (.k (.lit (.int .i64 2))))⟩, ⟨[], none, false, false⟩),
    (⟨(some 43), none, (.bin .rem (.t 42) (.k (.lit (.int .i64 3))))⟩, ⟨[], none, false, false⟩),
    (⟨(some 44), none, (.iaa 3 1 (.t 7) (.t 43))⟩, ⟨[7], none, false, false⟩),
    (⟨(some 45), none, (.ld false 1 (.t 44))⟩, ⟨[7], none, false, false⟩),
    (⟨(some 46), none, (.iad 2 (.t 40) (.t 45))⟩, ⟨[], none, false, false⟩),
    (⟨(some 47), none, (.ld true 2 (.t 46))⟩, ⟨[], none, true, false⟩),
    (⟨(some 9), none, (.new [(.lit (.int .i64 0)), (.lit (.int .i64 0))])⟩, ⟨[9], some 9, false, false⟩),
    (⟨(some 10), none, (.new [(.lit (.int .i64 0)), (.lit (.int .i64 0))])⟩, ⟨[10], some 10, false, false⟩),
    (⟨none, none, (.st 2 (.t 9) (.t 36))⟩, ⟨[9], some 9, false, false⟩),
    (⟨none, none, (.st 2 (.t 10) (.t 47))⟩, ⟨[10], some 10, false, false⟩)])
  (.seq (.reg [] [⟨(some 48), none, (.ld true 2 (.t 9))⟩,
    ⟨(some 49), none, (.ld true 2 (.t 10))⟩,
    ⟨(some 50), none, (.ld true 2 (.t 5))⟩,
    ⟨(some 51), none, (.call 89 [(.t 48), (.t 49), (.t 50)])⟩,
    ⟨(some 52), none, (.bin .gtr (.t 51) (.k (.lit (.int .i64 0))))⟩,
    ⟨(some 53), none, (.mv (.t 52))⟩,
    ⟨(some 54), (some (53, false)), (.ld true 2 (.t 5))⟩,
    ⟨(some 55), (some (53, false)), (.ld true 2 (.t 9))⟩,
    ⟨(some 56), (some (53, false)), (.ld true 2 (.t 10))⟩,
    ⟨(some 57), (some (53, false)), (.call 90 [(.t 54), (.t 55), (.t 56)])⟩,
    ⟨(some 58), none, (.pick (.t 53) (.k (.lit (.bool true))) (.t 57))⟩,
    ⟨(some 6), none, (.mv (.t 58))⟩])
  .ret)))))
  (.reg [] [⟨(some 59), none, (.bin .add (.t 19) (.k (.lit (.int .i64 1))))⟩,
    ⟨(some 19), none, (.mv (.t 59))⟩])))))))
  (.seq (.regd [] [[], [0], [1], [2], [], [4], [3, 5], [6], [], [8], [9], [10], [], [12], [11, 13], [14], [], [16], [17], [18], [], [20], [19, 21], [22], [], [7, 15, 23, 24], [25], [26, 25, 0, 1, 2, 3, 4, 5, 6, 7, 8, 9, 10, 11, 12, 13, 14, 15, 16, 17, 18, 19, 20, 21, 22, 23, 24, 25, 26]] [(⟨(some 60), none, (.mv (.t 0))⟩, ⟨[], none, false, false⟩),
    (⟨(some 61), none, (.nck (.t 60))⟩, ⟨[], none, false, false⟩),
    (⟨(some 62), none, (.fad 0 (.t 61))⟩, ⟨[], none, false, false⟩),
    (⟨(some 63), none, (.ld false 1 (.t 62))⟩, ⟨[], none, true, false⟩),
    (⟨(some 64), none, (.iaa 3 1 (.t 7) (.k (.lit (.int .i64 0))))⟩, ⟨[7], none, false, false⟩),
    (⟨(some 65), none, (.ld false 1 (.t 64))⟩, ⟨[7], none, false, false⟩),
    (⟨(some 66), none, (.iad 2 (.t 63) (.t 65))⟩, ⟨[], none, false, false⟩),
    (⟨(some 67), none, (.ld true 2 (.t 66))⟩, ⟨[], none, true, false⟩),
    (⟨(some 68), none, (.mv (.t 0))⟩, ⟨[], none, false, false⟩),
    (⟨(some 69), none, (.nck (.t 68))⟩, ⟨[], none, false, false⟩),
    (⟨(some 70), none, (.fad 0 (.t 69))⟩, ⟨[], none, false, false⟩),
    (⟨(some 71), none, (.ld false 1 (.t 70))⟩, ⟨[], none, true, false⟩),
    (⟨(some 72), none, (.iaa 3 1 (.t 7) (.k (.lit (.int .i64 1))))⟩, ⟨[7], none, false, false⟩),
    (⟨(some 73), none, (.ld false 1 (.t 72))⟩, ⟨[7], none, false, false⟩),
    (⟨(some 74), none, (.iad 2 (.t 71) (.t 73))⟩, ⟨[], none, false, false⟩),
    (⟨(some 75), none, (.ld true 2 (.t 74))⟩, ⟨[], none, true, false⟩),
    (⟨(some 76), none, (.mv (.t 0))⟩, ⟨[], none, false, false⟩),
    (⟨(some 77), none, (.nck (.t 76))⟩, ⟨[], none, false, false⟩),
    (⟨(some 78), none, (.fad 0 (.t 77))⟩, ⟨[], none, false, false⟩),
    (⟨(some 79), none, (.ld false 1 (.t 78))⟩, ⟨[], none, true, false⟩),
    (⟨(some 80), none, (.iaa 3 1 (.t 7) (.k (.lit (.int .i64 2))))⟩, ⟨[7], none, false, false⟩),
    (⟨(some 81), none, (.ld false 1 (.t 80))⟩, ⟨[7], none, false, false⟩),
    (⟨(some 82), none, (.iad 2 (.t 79) (.t 81))⟩, ⟨[], none, false, false⟩),
    (⟨(some 83), none, (.ld true 2 (.t 82))⟩, ⟨[], none, true, false⟩),
    (⟨(some 84), none, (.ld true 2 (.t 5))⟩, ⟨[5], none, false, false⟩),
    (⟨(some 85), none, (.call 91 [(.t 67), (.t 75), (.t 83), (.t 84)])⟩, ⟨[], none, true, false⟩),
    (⟨(some 86), none, (.bin .gtr (.t 85) (.k (.lit (.int .i64 0))))⟩, ⟨[], none, false, false⟩),
    (⟨(some 6), none, (.mv (.t 86))⟩, ⟨[], none, false, false⟩)])
  .ret)))), [(.tmp 6)], [], true⟩
theorem fo52 : compF Tryz.prog 52 = some ⟨fe52.N, fe52.xc.er, fe52.rs⟩ := by kernel_rfl
theorem ox52 : okX fe52.xc = true := by kernel_rfl
theorem hb52 : hasBody Tryz.prog 52 = true := by kernel_rfl
theorem fk52 : FEOK Tryz.prog 52 fe52 := ⟨fo52, ox52, hb52⟩

/-- slices.Sort[[]int,int] -/
def fe53 : FE := ⟨11, (.seq (.reg [] [⟨(some 3), none, (.mv (.t 0))⟩,
    ⟨(some 4), none, (.len (.t 3))⟩,
    ⟨(some 2), none, (.mv (.t 4))⟩])
  (.reg [] [⟨(some 5), none, (.mv (.t 0))⟩,
    ⟨(some 6), none, (.mv (.t 2))⟩,
    ⟨(some 7), none, (.mv (.t 2))⟩,
    ⟨(some 8), none, (.cv .u64 (.t 7))⟩,
    ⟨(some 9), none, (.call 93 [(.t 8)])⟩,
    ⟨(some 10), none, (.call 92 [(.t 5), (.k (.lit (.int .i64 0))), (.t 6), (.t 9)])⟩])), [], [], false⟩
theorem fo53 : compF Tryz.prog 53 = some ⟨fe53.N, fe53.xc.er, fe53.rs⟩ := by kernel_rfl
theorem ox53 : okX fe53.xc = true := by kernel_rfl
theorem hb53 : hasBody Tryz.prog 53 = true := by kernel_rfl
theorem fk53 : FEOK Tryz.prog 53 fe53 := ⟨fo53, ox53, hb53⟩

/-- slices.Index[[]int,int] -/
def fe54 : FE := ⟨19, (.seq (.reg [] [⟨(some 4), none, (.mv (.k (.lit (.int .i64 0))))⟩])
  (.seq (.seq (.reg [] [⟨(some 6), none, (.mv (.t 0))⟩,
    ⟨(some 7), none, (.len (.t 6))⟩,
    ⟨(some 8), none, (.mv (.k (.lit (.int .i64 0))))⟩])
  (.block 0 (.loop (.seq (.reg [] [⟨(some 9), none, (.bin .lss (.t 8) (.t 7))⟩])
  (.seq (.cond (.t 9) .skip (.exit 0))
  (.seq (.block 1 (.seq (.reg [] [⟨(some 10), none, (.mv (.t 8))⟩,
    ⟨(some 5), none, (.mv (.t 10))⟩])
  (.seq (.reg [] [⟨(some 11), none, (.mv (.t 1))⟩,
    ⟨(some 12), none, (.mv (.t 0))⟩,
    ⟨(some 13), none, (.mv (.t 5))⟩,
    ⟨(some 14), none, (.iad 1 (.t 12) (.t 13))⟩,
    ⟨(some 15), none, (.ld false 1 (.t 14))⟩,
    ⟨(some 16), none, (.bin .eql (.t 11) (.t 15))⟩])
  (.cond (.t 16) (.seq (.reg [] [⟨(some 17), none, (.mv (.t 5))⟩,
    ⟨(some 4), none, (.mv (.t 17))⟩])
  .ret) .skip))))
  (.reg [] [⟨(some 18), none, (.bin .add (.t 8) (.k (.lit (.int .i64 1))))⟩,
    ⟨(some 8), none, (.mv (.t 18))⟩])))))))
  (.seq (.reg [] [⟨(some 4), none, (.mv (.k (.lit (.int .i64 (-1)))))⟩])
  .ret))), [(.tmp 4)], [], true⟩
theorem fo54 : compF Tryz.prog 54 = some ⟨fe54.N, fe54.xc.er, fe54.rs⟩ := by kernel_rfl
theorem ox54 : okX fe54.xc = true := by kernel_rfl
theorem hb54 : hasBody Tryz.prog 54 = true := by kernel_rfl
theorem fk54 : FEOK Tryz.prog 54 fe54 := ⟨fo54, ox54, hb54⟩

/-- isohyet/pred.Dist2 -/
def fe55 : FE := ⟨26, (.seq (.reg [2, 3, 4] [⟨(some 2), none, (.box (.t 0))⟩,
    ⟨(some 3), none, (.box (.t 1))⟩,
    ⟨(some 4), none, (.new [(.lit (.bool false)), (.lit (.slice none 0 0))])⟩])
  (.seq (.regd [] [[], [0], [], [2], [1, 3], [], [5], [], [7], [6, 8], [4, 0, 1, 2, 3, 4], [9, 10, 0, 1, 2, 3, 4, 5, 6, 7, 8, 9, 10]] [(⟨(some 7), none, (.fad 0 (.t 2))⟩, ⟨[2], none, false, false⟩),
    (⟨(some 8), none, (.ld false 1 (.t 7))⟩, ⟨[2], none, false, false⟩),
    (⟨(some 9), none, (.fad 0 (.t 3))⟩, ⟨[3], none, false, false⟩),
    (⟨(some 10), none, (.ld false 1 (.t 9))⟩, ⟨[3], none, false, false⟩),
    (⟨(some 11), none, (.bin .sub (.t 8) (.t 10))⟩, ⟨[], none, false, false⟩),
    (⟨(some 12), none, (.fad 1 (.t 2))⟩, ⟨[2], none, false, false⟩),
    (⟨(some 13), none, (.ld false 1 (.t 12))⟩, ⟨[2], none, false, false⟩),
    (⟨(some 14), none, (.fad 1 (.t 3))⟩, ⟨[3], none, false, false⟩),
    (⟨(some 15), none, (.ld false 1 (.t 14))⟩, ⟨[3], none, false, false⟩),
    (⟨(some 16), none, (.bin .sub (.t 13) (.t 15))⟩, ⟨[], none, false, false⟩),
    (⟨(some 5), none, (.mv (.t 11))⟩, ⟨[], none, false, false⟩),
    (⟨(some 6), none, (.mv (.t 16))⟩, ⟨[], none, false, false⟩)])
  (.seq (.reg [] [⟨(some 17), none, (.mv (.t 5))⟩,
    ⟨(some 18), none, (.mv (.t 5))⟩,
    ⟨(some 19), none, (.call 95 [(.t 17), (.t 18)])⟩,
    ⟨(some 20), none, (.call 94 [(.t 19)])⟩,
    ⟨(some 21), none, (.mv (.t 6))⟩,
    ⟨(some 22), none, (.mv (.t 6))⟩,
    ⟨(some 23), none, (.call 95 [(.t 21), (.t 22)])⟩,
    ⟨(some 24), none, (.call 94 [(.t 23)])⟩,
    ⟨(some 25), none, (.call 64 [(.t 20), (.t 24)])⟩,
    ⟨none, none, (.st 2 (.t 4) (.t 25))⟩])
  .ret))), [(.cell 4 true 2)], [], true⟩
theorem fo55 : compF Tryz.prog 55 = some ⟨fe55.N, fe55.xc.er, fe55.rs⟩ := by kernel_rfl
theorem ox55 : okX fe55.xc = true := by kernel_rfl
theorem hb55 : hasBody Tryz.prog 55 = true := by kernel_rfl
theorem fk55 : FEOK Tryz.prog 55 fe55 := ⟨fo55, ox55, hb55⟩

/-- isohyet/num.Mul -/
def fe56 : FE := ⟨16, (.seq (.reg [2, 3, 4] [⟨(some 2), none, (.box (.t 0))⟩,
    ⟨(some 3), none, (.box (.t 1))⟩,
    ⟨(some 4), none, (.new [(.lit (.bool false)), (.lit (.slice none 0 0))])⟩])
  (.seq (.regd [] [[], [0], [], [2], [1, 3], [], [5], [], [7], [6, 8], [4, 9, 9], [10, 10, 0, 1, 2, 3, 4, 5, 6, 7, 8, 9, 10]] [(⟨(some 5), none, (.fad 0 (.t 2))⟩, ⟨[2], none, false, false⟩),
    (⟨(some 6), none, (.ld false 1 (.t 5))⟩, ⟨[2], none, false, false⟩),
    (⟨(some 7), none, (.fad 0 (.t 3))⟩, ⟨[3], none, false, false⟩),
    (⟨(some 8), none, (.ld false 1 (.t 7))⟩, ⟨[3], none, false, false⟩),
    (⟨(some 9), none, (.eqb true (.t 6) (.t 8))⟩, ⟨[], none, false, false⟩),
    (⟨(some 10), none, (.fad 1 (.t 2))⟩, ⟨[2], none, false, false⟩),
    (⟨(some 11), none, (.ld false 1 (.t 10))⟩, ⟨[2], none, false, false⟩),
    (⟨(some 12), none, (.fad 1 (.t 3))⟩, ⟨[3], none, false, false⟩),
    (⟨(some 13), none, (.ld false 1 (.t 12))⟩, ⟨[3], none, false, false⟩),
    (⟨(some 14), none, (.call 63 [(.t 11), (.t 13)])⟩, ⟨[], none, true, false⟩),
    (⟨(some 15), none, (.call 96 [(.t 9), (.t 14)])⟩, ⟨[], none, true, false⟩),
    (⟨none, none, (.st 2 (.t 4) (.t 15))⟩, ⟨[4], some 4, false, false⟩)])
  .ret)), [(.cell 4 true 2)], [], true⟩
theorem fo56 : compF Tryz.prog 56 = some ⟨fe56.N, fe56.xc.er, fe56.rs⟩ := by kernel_rfl
theorem ox56 : okX fe56.xc = true := by kernel_rfl
theorem hb56 : hasBody Tryz.prog 56 = true := by kernel_rfl
theorem fk56 : FEOK Tryz.prog 56 fe56 := ⟨fo56, ox56, hb56⟩

/-- isohyet/pred.Area2 -/
def fe57 : FE := ⟨12, (.seq (.reg [3, 4, 5, 6] [⟨(some 3), none, (.box (.t 0))⟩,
    ⟨(some 4), none, (.box (.t 1))⟩,
    ⟨(some 5), none, (.box (.t 2))⟩,
    ⟨(some 6), none, (.new [(.lit (.bool false)), (.lit (.slice none 0 0))])⟩])
  (.seq (.reg [] [⟨(some 7), none, (.ld true 2 (.t 3))⟩,
    ⟨(some 8), none, (.ld true 2 (.t 4))⟩,
    ⟨(some 9), none, (.ld true 2 (.t 5))⟩,
    ⟨(some 10), none, (.call 97 [(.t 7), (.t 8), (.t 9)])⟩,
    ⟨(some 11), none, (.call 94 [(.t 10)])⟩,
    ⟨none, none, (.st 2 (.t 6) (.t 11))⟩])
  .ret)), [(.cell 6 true 2)], [], true⟩
theorem fo57 : compF Tryz.prog 57 = some ⟨fe57.N, fe57.xc.er, fe57.rs⟩ := by kernel_rfl
theorem ox57 : okX fe57.xc = true := by kernel_rfl
theorem hb57 : hasBody Tryz.prog 57 = true := by kernel_rfl
theorem fk57 : FEOK Tryz.prog 57 fe57 := ⟨fo57, ox57, hb57⟩

/-- isohyet/frac.Make -/
def fe58 : FE := ⟨21, (.seq (.reg [2, 3, 4] [⟨(some 2), none, (.box (.t 0))⟩,
    ⟨(some 3), none, (.box (.t 1))⟩,
    ⟨(some 4), none, (.new [(.lit (.bool false)), (.lit (.slice none 0 0)), (.lit (.slice none 0 0))])⟩,
    ⟨(some 5), none, (.mv (.k (.lit (.bool false))))⟩])
  (.seq (.seq (.reg [] [⟨(some 6), none, (.ld true 2 (.t 3))⟩,
    ⟨(some 7), none, (.call 66 [(.t 6)])⟩,
    ⟨(some 8), none, (.bin .eql (.t 7) (.k (.lit (.int .i64 0))))⟩])
  (.cond (.t 8) (.seq (.reg [] [⟨(some 9), none, (.call 16 [(.k (.lit (.int .i64 0)))])⟩,
    ⟨none, none, (.st 3 (.t 4) (.t 9))⟩,
    ⟨(some 5), none, (.mv (.k (.lit (.bool false))))⟩])
  .ret) .skip))
  (.seq (.regd [] [[], [0], [], [2], [1, 3], [], [5], [4, 6], [], [8], [7, 9, 7], [10, 10, 0, 1, 2, 3, 4, 5, 6, 7, 8, 9, 10], [11, 0, 1, 2, 3, 4, 5, 6, 7, 8, 9, 10, 11]] [(⟨(some 10), none, (.fad 0 (.t 2))⟩, ⟨[2], none, false, false⟩),
    (⟨(some 11), none, (.ld false 1 (.t 10))⟩, ⟨[2], none, false, false⟩),
    (⟨(some 12), none, (.fad 0 (.t 3))⟩, ⟨[3], none, false, false⟩),
    (⟨(some 13), none, (.ld false 1 (.t 12))⟩, ⟨[3], none, false, false⟩),
    (⟨(some 14), none, (.eqb true (.t 11) (.t 13))⟩, ⟨[], none, false, false⟩),
    (⟨(some 15), none, (.fad 1 (.t 2))⟩, ⟨[2], none, false, false⟩),
    (⟨(some 16), none, (.ld false 1 (.t 15))⟩, ⟨[2], none, false, false⟩),
    (⟨(some 17), none, (.call 96 [(.t 14), (.t 16)])⟩, ⟨[], none, true, false⟩),
    (⟨(some 18), none, (.fad 1 (.t 3))⟩, ⟨[3], none, false, false⟩),
    (⟨(some 19), none, (.ld false 1 (.t 18))⟩, ⟨[3], none, false, false⟩),
    (⟨(some 20), none, (.call 60 [(.t 17), (.t 19)])⟩, ⟨[], none, true, false⟩),
    (⟨none, none, (.st 3 (.t 4) (.t 20))⟩, ⟨[4], some 4, false, false⟩),
    (⟨(some 5), none, (.mv (.k (.lit (.bool true))))⟩, ⟨[], none, false, false⟩)])
  .ret))), [(.cell 4 true 3), (.tmp 5)], [], true⟩
theorem fo58 : compF Tryz.prog 58 = some ⟨fe58.N, fe58.xc.er, fe58.rs⟩ := by kernel_rfl
theorem ox58 : okX fe58.xc = true := by kernel_rfl
theorem hb58 : hasBody Tryz.prog 58 = true := by kernel_rfl
theorem fk58 : FEOK Tryz.prog 58 fe58 := ⟨fo58, ox58, hb58⟩

/-- isohyet/spot.det -/
def fe59 : FE := ⟨16, (.seq (.reg [4, 5, 6, 7, 8] [⟨(some 4), none, (.box (.t 0))⟩,
    ⟨(some 5), none, (.box (.t 1))⟩,
    ⟨(some 6), none, (.box (.t 2))⟩,
    ⟨(some 7), none, (.box (.t 3))⟩,
    ⟨(some 8), none, (.new [(.lit (.bool false)), (.lit (.slice none 0 0))])⟩])
  (.seq (.regd [] [[], [], [0, 1], [], [], [3, 4, 2], [2, 5, 5], [6, 6, 0, 1, 2, 3, 4, 5, 6]] [(⟨(some 9), none, (.ld true 2 (.t 4))⟩, ⟨[4], none, false, false⟩),
    (⟨(some 10), none, (.ld true 2 (.t 7))⟩, ⟨[7], none, false, false⟩),
    (⟨(some 11), none, (.call 56 [(.t 9), (.t 10)])⟩, ⟨[], none, true, false⟩),
    (⟨(some 12), none, (.ld true 2 (.t 5))⟩, ⟨[5], none, false, false⟩),
    (⟨(some 13), none, (.ld true 2 (.t 6))⟩, ⟨[6], none, false, false⟩),
    (⟨(some 14), none, (.call 56 [(.t 12), (.t 13)])⟩, ⟨[], none, true, false⟩),
    (⟨(some 15), none, (.call 98 [(.t 11), (.t 14)])⟩, ⟨[], none, true, false⟩),
    (⟨none, none, (.st 2 (.t 8) (.t 15))⟩, ⟨[8], some 8, false, false⟩)])
  .ret)), [(.cell 8 true 2)], [], true⟩
theorem fo59 : compF Tryz.prog 59 = some ⟨fe59.N, fe59.xc.er, fe59.rs⟩ := by kernel_rfl
theorem ox59 : okX fe59.xc = true := by kernel_rfl
theorem hb59 : hasBody Tryz.prog 59 = true := by kernel_rfl
theorem fk59 : FEOK Tryz.prog 59 fe59 := ⟨fo59, ox59, hb59⟩

/-- isohyet/frac.low -/
def fe60 : FE := ⟨47, (.seq (.reg [2, 4] [⟨(some 2), none, (.box (.t 0))⟩,
    ⟨(some 4), none, (.new [(.lit (.bool false)), (.lit (.slice none 0 0)), (.lit (.slice none 0 0))])⟩])
  (.seq (.reg [] [⟨(some 10), none, (.call 81 [])⟩,
    ⟨(some 5), none, (.mv (.t 10))⟩])
  (.seq (.seq (.reg [] [⟨(some 11), none, (.mv (.t 1))⟩,
    ⟨(some 12), none, (.call 99 [(.t 11)])⟩,
    ⟨(some 13), none, (.un .not (.t 12))⟩])
  (.cond (.t 13) (.reg [] [⟨(some 14), none, (.fad 1 (.t 2))⟩,
    ⟨(some 15), none, (.ld false 1 (.t 14))⟩,
    ⟨(some 16), none, (.mv (.t 1))⟩,
    ⟨(some 17), none, (.call 100 [(.t 15), (.t 16)])⟩,
    ⟨(some 5), none, (.mv (.t 17))⟩]) .skip))
  (.seq (.seq (.reg [] [⟨(some 18), none, (.mv (.t 5))⟩,
    ⟨(some 19), none, (.call 99 [(.t 18)])⟩])
  (.cond (.t 19) (.seq (.reg [] [⟨(some 20), none, (.fad 0 (.t 2))⟩,
    ⟨(some 21), none, (.ld false 1 (.t 20))⟩,
    ⟨(some 22), none, (.fad 1 (.t 2))⟩,
    ⟨(some 23), none, (.ld false 1 (.t 22))⟩,
    ⟨(some 24), none, (.call 96 [(.t 21), (.t 23)])⟩,
    ⟨(some 25), none, (.mv (.t 1))⟩,
    ⟨(some 26), none, (.call 101 [(.t 25), (.k (.lit (.slice none 0 0)))])⟩,
    ⟨(some 27), none, (.bld [(.lit (.bool false)), (.lit (.slice none 0 0)), (.lit (.slice none 0 0))] [(0, (2, (.t 24))), (2, (1, (.t 26)))])⟩,
    ⟨none, none, (.st 3 (.t 4) (.t 27))⟩])
  .ret) .skip))
  (.seq (.reg [] [⟨(some 29), none, (.fad 1 (.t 2))⟩,
    ⟨(some 30), none, (.ld false 1 (.t 29))⟩,
    ⟨(some 31), none, (.mv (.t 5))⟩,
    ⟨(some 32), none, (.call 102 [(.t 30), (.t 31)])⟩,
    ⟨(some 28), none, (.mv (.t 32))⟩,
    ⟨(some 33), none, (.ext (.t 28) 0)⟩,
    ⟨(some 34), none, (.ext (.t 28) 1)⟩,
    ⟨(some 6), none, (.mv (.t 33))⟩,
    ⟨(some 7), none, (.mv (.t 34))⟩])
  (.seq (.reg [] [⟨(some 36), none, (.mv (.t 1))⟩,
    ⟨(some 37), none, (.mv (.t 5))⟩,
    ⟨(some 38), none, (.call 102 [(.t 36), (.t 37)])⟩,
    ⟨(some 35), none, (.mv (.t 38))⟩,
    ⟨(some 39), none, (.ext (.t 35) 0)⟩,
    ⟨(some 40), none, (.ext (.t 35) 1)⟩,
    ⟨(some 8), none, (.mv (.t 39))⟩,
    ⟨(some 9), none, (.mv (.t 40))⟩])
  (.seq (.reg [] [⟨(some 41), none, (.fad 0 (.t 2))⟩,
    ⟨(some 42), none, (.ld false 1 (.t 41))⟩,
    ⟨(some 43), none, (.mv (.t 6))⟩,
    ⟨(some 44), none, (.call 96 [(.t 42), (.t 43)])⟩,
    ⟨(some 45), none, (.mv (.t 8))⟩,
    ⟨(some 46), none, (.bld [(.lit (.bool false)), (.lit (.slice none 0 0)), (.lit (.slice none 0 0))] [(0, (2, (.t 44))), (2, (1, (.t 45)))])⟩,
    ⟨none, none, (.st 3 (.t 4) (.t 46))⟩])
  .ret))))))), [(.cell 4 true 3)], [], true⟩
theorem fo60 : compF Tryz.prog 60 = some ⟨fe60.N, fe60.xc.er, fe60.rs⟩ := by kernel_rfl
theorem ox60 : okX fe60.xc = true := by kernel_rfl
theorem hb60 : hasBody Tryz.prog 60 = true := by kernel_rfl
theorem fk60 : FEOK Tryz.prog 60 fe60 := ⟨fo60, ox60, hb60⟩

/-- isohyet/num.Neg -/
def fe61 : FE := ⟨9, (.seq (.reg [1, 2] [⟨(some 1), none, (.box (.t 0))⟩,
    ⟨(some 2), none, (.new [(.lit (.bool false)), (.lit (.slice none 0 0))])⟩])
  (.seq (.reg [] [⟨(some 3), none, (.fad 0 (.t 1))⟩,
    ⟨(some 4), none, (.ld false 1 (.t 3))⟩,
    ⟨(some 5), none, (.un .not (.t 4))⟩,
    ⟨(some 6), none, (.fad 1 (.t 1))⟩,
    ⟨(some 7), none, (.ld false 1 (.t 6))⟩,
    ⟨(some 8), none, (.call 96 [(.t 5), (.t 7)])⟩,
    ⟨none, none, (.st 2 (.t 2) (.t 8))⟩])
  .ret)), [(.cell 2 true 2)], [], true⟩
theorem fo61 : compF Tryz.prog 61 = some ⟨fe61.N, fe61.xc.er, fe61.rs⟩ := by kernel_rfl
theorem ox61 : okX fe61.xc = true := by kernel_rfl
theorem hb61 : hasBody Tryz.prog 61 = true := by kernel_rfl
theorem fk61 : FEOK Tryz.prog 61 fe61 := ⟨fo61, ox61, hb61⟩

/-- isohyet/frac.den -/
def fe62 : FE := ⟨10, (.seq (.reg [1] [⟨(some 1), none, (.box (.t 0))⟩,
    ⟨(some 2), none, (.mv (.k (.lit (.slice none 0 0))))⟩])
  (.seq (.seq (.reg [] [⟨(some 3), none, (.fad 2 (.t 1))⟩,
    ⟨(some 4), none, (.ld false 1 (.t 3))⟩,
    ⟨(some 5), none, (.call 103 [(.t 4)])⟩,
    ⟨(some 6), none, (.bin .eql (.t 5) (.k (.lit (.int .i64 0))))⟩])
  (.cond (.t 6) (.seq (.reg [] [⟨(some 7), none, (.call 81 [])⟩,
    ⟨(some 2), none, (.mv (.t 7))⟩])
  .ret) .skip))
  (.seq (.reg [] [⟨(some 8), none, (.fad 2 (.t 1))⟩,
    ⟨(some 9), none, (.ld false 1 (.t 8))⟩,
    ⟨(some 2), none, (.mv (.t 9))⟩])
  .ret))), [(.tmp 2)], [], true⟩
theorem fo62 : compF Tryz.prog 62 = some ⟨fe62.N, fe62.xc.er, fe62.rs⟩ := by kernel_rfl
theorem ox62 : okX fe62.xc = true := by kernel_rfl
theorem hb62 : hasBody Tryz.prog 62 = true := by kernel_rfl
theorem fk62 : FEOK Tryz.prog 62 fe62 := ⟨fo62, ox62, hb62⟩

/-- isohyet/mag.Mul -/
def fe63 : FE := ⟨79, (.seq (.reg [] [⟨(some 4), none, (.mv (.k (.lit (.slice none 0 0))))⟩])
  (.seq (.reg [] [⟨(some 14), none, (.mv (.t 0))⟩,
    ⟨(some 15), none, (.len (.t 14))⟩,
    ⟨(some 16), none, (.mv (.t 1))⟩,
    ⟨(some 17), none, (.len (.t 16))⟩,
    ⟨(some 18), none, (.bin .add (.t 15) (.t 17))⟩,
    ⟨(some 19), none, (.mks 1 8 [(.lit (.int .u64 0))] (.t 18) (.t 18))⟩,
    ⟨(some 5), none, (.mv (.t 19))⟩])
  (.seq (.seq (.reg [] [⟨(some 20), none, (.mv (.t 0))⟩,
    ⟨(some 21), none, (.len (.t 20))⟩,
    ⟨(some 22), none, (.mv (.k (.lit (.int .i64 0))))⟩])
  (.block 0 (.loop (.seq (.reg [] [⟨(some 23), none, (.bin .lss (.t 22) (.t 21))⟩])
  (.seq (.cond (.t 23) .skip (.exit 0))
  (.seq (.block 1 (.seq (.reg [] [⟨(some 24), none, (.mv (.t 22))⟩,
    ⟨(some 25), none, (.iad 1 (.t 20) (.t 22))⟩,
    ⟨(some 26), none, (.ld false 1 (.t 25))⟩,
    ⟨(some 6), none, (.mv (.t 24))⟩,
    ⟨(some 7), none, (.mv (.t 26))⟩])
  (.seq (.reg [] [⟨(some 8), none, (.mv (.k (.lit (.int .u64 0))))⟩])
  (.seq (.seq (.reg [] [⟨(some 27), none, (.mv (.t 1))⟩,
    ⟨(some 28), none, (.len (.t 27))⟩,
    ⟨(some 29), none, (.mv (.k (.lit (.int .i64 0))))⟩])
  (.block 2 (.loop (.seq (.reg [] [⟨(some 30), none, (.bin .lss (.t 29) (.t 28))⟩])
  (.seq (.cond (.t 30) .skip (.exit 2))
  (.seq (.block 3 (.seq (.reg [] [⟨(some 31), none, (.mv (.t 29))⟩,
    ⟨(some 32), none, (.iad 1 (.t 27) (.t 29))⟩,
    ⟨(some 33), none, (.ld false 1 (.t 32))⟩,
    ⟨(some 9), none, (.mv (.t 31))⟩,
    ⟨(some 10), none, (.mv (.t 33))⟩])
  (.seq (.reg [] [⟨(some 35), none, (.mv (.t 7))⟩,
    ⟨(some 36), none, (.mv (.t 10))⟩,
    ⟨(some 37), none, (.call 104 [(.t 35), (.t 36)])⟩,
    ⟨(some 34), none, (.mv (.t 37))⟩,
    ⟨(some 38), none, (.ext (.t 34) 0)⟩,
    ⟨(some 39), none, (.ext (.t 34) 1)⟩,
    ⟨(some 11), none, (.mv (.t 38))⟩,
    ⟨(some 12), none, (.mv (.t 39))⟩])
  (.seq (.reg [] [⟨(some 13), none, (.mv (.k (.lit (.int .u64 0))))⟩])
  (.seq (.reg [] [⟨(some 41), none, (.mv (.t 12))⟩,
    ⟨(some 42), none, (.mv (.t 8))⟩,
    ⟨(some 43), none, (.adc (.t 41) (.t 42) (.k (.lit (.int .u64 0))))⟩,
    ⟨(some 40), none, (.mv (.t 43))⟩,
    ⟨(some 44), none, (.ext (.t 40) 0)⟩,
    ⟨(some 45), none, (.ext (.t 40) 1)⟩,
    ⟨(some 12), none, (.mv (.t 44))⟩,
    ⟨(some 13), none, (.mv (.t 45))⟩])
  (.seq (.reg [] [⟨(some 46), none, (.mv (.t 11))⟩,
    ⟨(some 47), none, (.mv (.t 13))⟩,
    ⟨(some 48), none, (.bin .add (.t 46) (.t 47))⟩,
    ⟨(some 11), none, (.mv (.t 48))⟩])
  (.seq (.reg [] [⟨(some 50), none, (.mv (.t 5))⟩,
    ⟨(some 51), none, (.mv (.t 6))⟩,
    ⟨(some 52), none, (.mv (.t 9))⟩,
    ⟨(some 53), none, (.bin .add (.t 51) (.t 52))⟩,
    ⟨(some 54), none, (.mv (.t 5))⟩,
    ⟨(some 55), none, (.mv (.t 6))⟩,
    ⟨(some 56), none, (.mv (.t 9))⟩,
    ⟨(some 57), none, (.bin .add (.t 55) (.t 56))⟩,
    ⟨(some 58), none, (.iad 1 (.t 54) (.t 57))⟩,
    ⟨(some 59), none, (.ld false 1 (.t 58))⟩,
    ⟨(some 60), none, (.mv (.t 12))⟩,
    ⟨(some 61), none, (.adc (.t 59) (.t 60) (.k (.lit (.int .u64 0))))⟩,
    ⟨(some 49), none, (.mv (.t 61))⟩,
    ⟨(some 62), none, (.ext (.t 49) 0)⟩,
    ⟨(some 63), none, (.ext (.t 49) 1)⟩,
    ⟨(some 64), none, (.iad 1 (.t 50) (.t 53))⟩,
    ⟨none, none, (.st 1 (.t 64) (.t 62))⟩,
    ⟨(some 13), none, (.mv (.t 63))⟩])
  (.reg [] [⟨(some 65), none, (.mv (.t 11))⟩,
    ⟨(some 66), none, (.mv (.t 13))⟩,
    ⟨(some 67), none, (.bin .add (.t 65) (.t 66))⟩,
    ⟨(some 8), none, (.mv (.t 67))⟩]))))))))
  (.reg [] [⟨(some 68), none, (.bin .add (.t 29) (.k (.lit (.int .i64 1))))⟩,
    ⟨(some 29), none, (.mv (.t 68))⟩])))))))
  (.reg [] [⟨(some 69), none, (.mv (.t 5))⟩,
    ⟨(some 70), none, (.mv (.t 6))⟩,
    ⟨(some 71), none, (.mv (.t 1))⟩,
    ⟨(some 72), none, (.len (.t 71))⟩,
    ⟨(some 73), none, (.bin .add (.t 70) (.t 72))⟩,
    ⟨(some 74), none, (.mv (.t 8))⟩,
    ⟨(some 75), none, (.iad 1 (.t 69) (.t 73))⟩,
    ⟨none, none, (.st 1 (.t 75) (.t 74))⟩])))))
  (.reg [] [⟨(some 76), none, (.bin .add (.t 22) (.k (.lit (.int .i64 1))))⟩,
    ⟨(some 22), none, (.mv (.t 76))⟩])))))))
  (.seq (.reg [] [⟨(some 77), none, (.mv (.t 5))⟩,
    ⟨(some 78), none, (.call 106 [(.t 77)])⟩,
    ⟨(some 4), none, (.mv (.t 78))⟩])
  .ret)))), [(.tmp 4)], [], true⟩
theorem fo63 : compF Tryz.prog 63 = some ⟨fe63.N, fe63.xc.er, fe63.rs⟩ := by kernel_rfl
theorem ox63 : okX fe63.xc = true := by kernel_rfl
theorem hb63 : hasBody Tryz.prog 63 = true := by kernel_rfl
theorem fk63 : FEOK Tryz.prog 63 fe63 := ⟨fo63, ox63, hb63⟩

/-- isohyet/num.Add -/
def fe64 : FE := ⟨40, (.seq (.reg [2, 3, 4] [⟨(some 2), none, (.box (.t 0))⟩,
    ⟨(some 3), none, (.box (.t 1))⟩,
    ⟨(some 4), none, (.new [(.lit (.bool false)), (.lit (.slice none 0 0))])⟩])
  (.seq (.seq (.reg [] [⟨(some 5), none, (.fad 0 (.t 2))⟩,
    ⟨(some 6), none, (.ld false 1 (.t 5))⟩,
    ⟨(some 7), none, (.fad 0 (.t 3))⟩,
    ⟨(some 8), none, (.ld false 1 (.t 7))⟩,
    ⟨(some 9), none, (.eqb false (.t 6) (.t 8))⟩])
  (.cond (.t 9) (.seq (.regd [] [[], [0], [], [2], [], [4], [3, 5], [1, 6, 6], [7, 7, 0, 1, 2, 3, 4, 5, 6, 7]] [(⟨(some 10), none, (.fad 0 (.t 2))⟩, ⟨[2], none, false, false⟩),
    (⟨(some 11), none, (.ld false 1 (.t 10))⟩, ⟨[2], none, false, false⟩),
    (⟨(some 12), none, (.fad 1 (.t 2))⟩, ⟨[2], none, false, false⟩),
    (⟨(some 13), none, (.ld false 1 (.t 12))⟩, ⟨[2], none, false, false⟩),
    (⟨(some 14), none, (.fad 1 (.t 3))⟩, ⟨[3], none, false, false⟩),
    (⟨(some 15), none, (.ld false 1 (.t 14))⟩, ⟨[3], none, false, false⟩),
    (⟨(some 16), none, (.call 101 [(.t 13), (.t 15)])⟩, ⟨[], none, true, false⟩),
    (⟨(some 17), none, (.call 96 [(.t 11), (.t 16)])⟩, ⟨[], none, true, false⟩),
    (⟨none, none, (.st 2 (.t 4) (.t 17))⟩, ⟨[4], some 4, false, false⟩)])
  .ret) .skip))
  (.seq (.seq (.reg [] [⟨(some 18), none, (.fad 1 (.t 2))⟩,
    ⟨(some 19), none, (.ld false 1 (.t 18))⟩,
    ⟨(some 20), none, (.fad 1 (.t 3))⟩,
    ⟨(some 21), none, (.ld false 1 (.t 20))⟩,
    ⟨(some 22), none, (.call 107 [(.t 19), (.t 21)])⟩,
    ⟨(some 23), none, (.bin .geq (.t 22) (.k (.lit (.int .i64 0))))⟩])
  (.cond (.t 23) (.seq (.regd [] [[], [0], [], [2], [], [4], [3, 5], [1, 6, 6], [7, 7, 0, 1, 2, 3, 4, 5, 6, 7]] [(⟨(some 24), none, (.fad 0 (.t 2))⟩, ⟨[2], none, false, false⟩),
    (⟨(some 25), none, (.ld false 1 (.t 24))⟩, ⟨[2], none, false, false⟩),
    (⟨(some 26), none, (.fad 1 (.t 2))⟩, ⟨[2], none, false, false⟩),
    (⟨(some 27), none, (.ld false 1 (.t 26))⟩, ⟨[2], none, false, false⟩),
    (⟨(some 28), none, (.fad 1 (.t 3))⟩, ⟨[3], none, false, false⟩),
    (⟨(some 29), none, (.ld false 1 (.t 28))⟩, ⟨[3], none, false, false⟩),
    (⟨(some 30), none, (.call 108 [(.t 27), (.t 29)])⟩, ⟨[], none, true, false⟩),
    (⟨(some 31), none, (.call 96 [(.t 25), (.t 30)])⟩, ⟨[], none, true, false⟩),
    (⟨none, none, (.st 2 (.t 4) (.t 31))⟩, ⟨[4], some 4, false, false⟩)])
  .ret) .skip))
  (.seq (.regd [] [[], [0], [], [2], [], [4], [3, 5], [1, 6, 6], [7, 7, 0, 1, 2, 3, 4, 5, 6, 7]] [(⟨(some 32), none, (.fad 0 (.t 3))⟩, ⟨[3], none, false, false⟩),
    (⟨(some 33), none, (.ld false 1 (.t 32))⟩, ⟨[3], none, false, false⟩),
    (⟨(some 34), none, (.fad 1 (.t 3))⟩, ⟨[3], none, false, false⟩),
    (⟨(some 35), none, (.ld false 1 (.t 34))⟩, ⟨[3], none, false, false⟩),
    (⟨(some 36), none, (.fad 1 (.t 2))⟩, ⟨[2], none, false, false⟩),
    (⟨(some 37), none, (.ld false 1 (.t 36))⟩, ⟨[2], none, false, false⟩),
    (⟨(some 38), none, (.call 108 [(.t 35), (.t 37)])⟩, ⟨[], none, true, false⟩),
    (⟨(some 39), none, (.call 96 [(.t 33), (.t 38)])⟩, ⟨[], none, true, false⟩),
    (⟨none, none, (.st 2 (.t 4) (.t 39))⟩, ⟨[4], some 4, false, false⟩)])
  .ret)))), [(.cell 4 true 2)], [], true⟩
theorem fo64 : compF Tryz.prog 64 = some ⟨fe64.N, fe64.xc.er, fe64.rs⟩ := by kernel_rfl
theorem ox64 : okX fe64.xc = true := by kernel_rfl
theorem hb64 : hasBody Tryz.prog 64 = true := by kernel_rfl
theorem fk64 : FEOK Tryz.prog 64 fe64 := ⟨fo64, ox64, hb64⟩

/-- isohyet/frac.below -/
def fe65 : FE := ⟨6, (.seq (.reg [1, 2] [⟨(some 1), none, (.box (.t 0))⟩,
    ⟨(some 2), none, (.new [(.lit (.bool false)), (.lit (.slice none 0 0))])⟩])
  (.seq (.reg [] [⟨(some 3), none, (.ld true 3 (.t 1))⟩,
    ⟨(some 4), none, (.call 62 [(.t 3)])⟩,
    ⟨(some 5), none, (.bld [(.lit (.bool false)), (.lit (.slice none 0 0))] [(1, (1, (.t 4)))])⟩,
    ⟨none, none, (.st 2 (.t 2) (.t 5))⟩])
  .ret)), [(.cell 2 true 2)], [], true⟩
theorem fo65 : compF Tryz.prog 65 = some ⟨fe65.N, fe65.xc.er, fe65.rs⟩ := by kernel_rfl
theorem ox65 : okX fe65.xc = true := by kernel_rfl
theorem hb65 : hasBody Tryz.prog 65 = true := by kernel_rfl
theorem fk65 : FEOK Tryz.prog 65 fe65 := ⟨fo65, ox65, hb65⟩

/-- isohyet/num.Sign -/
def fe66 : FE := ⟨11, (.seq (.reg [1] [⟨(some 1), none, (.box (.t 0))⟩,
    ⟨(some 2), none, (.mv (.k (.lit (.int .i64 0))))⟩])
  (.seq (.block 0 (.seq (.reg [] [⟨(some 4), none, (.fad 1 (.t 1))⟩,
    ⟨(some 5), none, (.ld false 1 (.t 4))⟩,
    ⟨(some 6), none, (.call 103 [(.t 5)])⟩,
    ⟨(some 7), none, (.bin .eql (.t 6) (.k (.lit (.int .i64 0))))⟩,
    ⟨(some 3), none, (.mv (.t 7))⟩])
  (.cond (.t 3) (.seq (.reg [] [⟨(some 2), none, (.mv (.k (.lit (.int .i64 0))))⟩])
  .ret) (.seq (.reg [] [⟨(some 9), none, (.fad 0 (.t 1))⟩,
    ⟨(some 10), none, (.ld false 1 (.t 9))⟩,
    ⟨(some 8), none, (.mv (.t 10))⟩])
  (.cond (.t 8) (.seq (.reg [] [⟨(some 2), none, (.mv (.k (.lit (.int .i64 (-1)))))⟩])
  .ret) .skip)))))
  (.seq (.reg [] [⟨(some 2), none, (.mv (.k (.lit (.int .i64 1))))⟩])
  .ret))), [(.tmp 2)], [], true⟩
theorem fo66 : compF Tryz.prog 66 = some ⟨fe66.N, fe66.xc.er, fe66.rs⟩ := by kernel_rfl
theorem ox66 : okX fe66.xc = true := by kernel_rfl
theorem hb66 : hasBody Tryz.prog 66 = true := by kernel_rfl
theorem fk66 : FEOK Tryz.prog 66 fe66 := ⟨fo66, ox66, hb66⟩

/-- isohyet/grow.Base -/
def fe71 : FE := ⟨45, (.seq (.reg [2] [⟨(some 2), none, (.new [(.lit (.int .i64 0)), (.lit (.int .i64 0)), (.lit (.int .i64 0))])⟩,
    ⟨(some 3), none, (.mv (.k (.lit (.bool false))))⟩])
  (.seq (.reg [] [⟨(some 4), none, (.mv (.k (.lit (.int .i64 0))))⟩])
  (.seq (.seq (.reg [] [⟨(some 7), none, (.mv (.t 0))⟩,
    ⟨(some 8), none, (.len (.t 7))⟩,
    ⟨(some 9), none, (.mv (.k (.lit (.int .i64 0))))⟩])
  (.block 0 (.loop (.seq (.reg [] [⟨(some 10), none, (.bin .lss (.t 9) (.t 8))⟩])
  (.seq (.cond (.t 10) .skip (.exit 0))
  (.seq (.block 1 (.seq (.reg [6] [⟨(some 11), none, (.mv (.t 9))⟩,
    ⟨(some 12), none, (.iad 2 (.t 7) (.t 9))⟩,
    ⟨(some 13), none, (.ld true 2 (.t 12))⟩,
    ⟨(some 6), none, (.new [(.lit (.int .i64 0)), (.lit (.int .i64 0))])⟩,
    ⟨(some 5), none, (.mv (.t 11))⟩,
    ⟨none, none, (.st 2 (.t 6) (.t 13))⟩])
  (.block 2 (.seq (.regd [] [[], [0], [1], [2], [2], [4, 2], [5, 2], [3, 6, 2], [2, 7], [8, 2]] [(⟨(some 15), none, (.mv (.t 4))⟩, ⟨[], none, false, false⟩),
    (⟨(some 16), none, (.bin .eql (.t 15) (.k (.lit (.int .i64 0))))⟩, ⟨[], none, false, false⟩),
    (⟨(some 17), none, (.mv (.t 16))⟩, ⟨[], none, false, false⟩),
    (⟨(some 18), (some (17, true)), (.ld true 2 (.t 6))⟩, ⟨[6], none, false, false⟩),
    (⟨(some 19), (some (17, true)), (.mv (.t 0))⟩, ⟨[], none, false, false⟩),
    (⟨(some 20), (some (17, true)), (.iad 2 (.t 19) (.k (.lit (.int .i64 0))))⟩, ⟨[], none, false, false⟩),
    (⟨(some 21), (some (17, true)), (.ld true 2 (.t 20))⟩, ⟨[], none, true, false⟩),
    (⟨(some 22), (some (17, true)), (.eqc true [true, true] (.t 18) (.t 21))⟩, ⟨[], none, false, false⟩),
    (⟨(some 23), none, (.pick (.t 17) (.t 22) (.k (.lit (.bool false))))⟩, ⟨[], none, false, false⟩),
    (⟨(some 14), none, (.mv (.t 23))⟩, ⟨[], none, false, false⟩)])
  (.cond (.t 14) (.reg [] [⟨(some 24), none, (.mv (.t 5))⟩,
    ⟨(some 4), none, (.mv (.t 24))⟩]) (.seq (.regd [] [[], [0], [1], [2], [3, 2], [4, 2], [2], [2], [6, 7, 2], [8, 2], [2], [5, 9, 10, 2, 2], [11, 2], [2, 12], [13, 11]] [(⟨(some 26), none, (.mv (.t 4))⟩, ⟨[], none, false, false⟩),
    (⟨(some 27), none, (.bin .gtr (.t 26) (.k (.lit (.int .i64 0))))⟩, ⟨[], none, false, false⟩),
    (⟨(some 28), none, (.mv (.t 27))⟩, ⟨[], none, false, false⟩),
    (⟨(some 29), (some (28, true)), (.mv (.t 0))⟩, ⟨[], none, false, false⟩),
    (⟨(some 30), (some (28, true)), (.iad 2 (.t 29) (.k (.lit (.int .i64 0))))⟩, ⟨[], none, false, false⟩),
    (⟨(some 31), (some (28, true)), (.ld true 2 (.t 30))⟩, ⟨[], none, true, false⟩),
    (⟨(some 32), (some (28, true)), (.mv (.t 0))⟩, ⟨[], none, false, false⟩),
    (⟨(some 33), (some (28, true)), (.mv (.t 4))⟩, ⟨[], none, false, false⟩),
    (⟨(some 34), (some (28, true)), (.iad 2 (.t 32) (.t 33))⟩, ⟨[], none, false, false⟩),
    (⟨(some 35), (some (28, true)), (.ld true 2 (.t 34))⟩, ⟨[], none, true, false⟩),
    (⟨(some 36), (some (28, true)), (.ld true 2 (.t 6))⟩, ⟨[6], none, false, false⟩),
    (⟨(some 37), (some (28, true)), (.call 89 [(.t 31), (.t 35), (.t 36)])⟩, ⟨[], none, true, false⟩),
    (⟨(some 38), (some (28, true)), (.bin .neq (.t 37) (.k (.lit (.int .i64 0))))⟩, ⟨[], none, false, false⟩),
    (⟨(some 39), none, (.pick (.t 28) (.t 38) (.k (.lit (.bool false))))⟩, ⟨[], none, false, false⟩),
    (⟨(some 25), none, (.mv (.t 39))⟩, ⟨[], none, false, false⟩)])
  (.cond (.t 25) (.seq (.reg [] [⟨(some 40), none, (.mv (.t 4))⟩,
    ⟨(some 41), none, (.mv (.t 5))⟩,
    ⟨(some 42), none, (.bld [(.lit (.int .i64 0)), (.lit (.int .i64 0)), (.lit (.int .i64 0))] [(0, (1, (.k (.lit (.int .i64 0))))), (1, (1, (.t 40))), (2, (1, (.t 41)))])⟩,
    ⟨none, none, (.st 3 (.t 2) (.t 42))⟩,
    ⟨(some 3), none, (.mv (.k (.lit (.bool true))))⟩])
  .ret) .skip)))))))
  (.reg [] [⟨(some 43), none, (.bin .add (.t 9) (.k (.lit (.int .i64 1))))⟩,
    ⟨(some 9), none, (.mv (.t 43))⟩])))))))
  (.seq (.reg [] [⟨(some 44), none, (.bld [(.lit (.int .i64 0)), (.lit (.int .i64 0)), (.lit (.int .i64 0))] [])⟩,
    ⟨none, none, (.st 3 (.t 2) (.t 44))⟩,
    ⟨(some 3), none, (.mv (.k (.lit (.bool false))))⟩])
  .ret)))), [(.cell 2 true 3), (.tmp 3)], [], true⟩
theorem fo71 : compF Tryz.prog 71 = some ⟨fe71.N, fe71.xc.er, fe71.rs⟩ := by kernel_rfl
theorem ox71 : okX fe71.xc = true := by kernel_rfl
theorem hb71 : hasBody Tryz.prog 71 = true := by kernel_rfl
theorem fk71 : FEOK Tryz.prog 71 fe71 := ⟨fo71, ox71, hb71⟩

/-- isohyet/mesh.New -/
def fe72 : FE := ⟨102, (.seq (.reg [] [⟨(some 8), none, (.mv (.k (.lit (.pointer none))))⟩,
    ⟨(some 9), none, (.mv (.k (.lit (.bool false))))⟩])
  (.seq (.reg [] [⟨(some 16), none, (.mv (.t 0))⟩,
    ⟨(some 17), none, (.app 2 16 (.k (.lit (.slice none 0 0))) (.t 16))⟩,
    ⟨(some 18), none, (.bld [(.lit (.slice none 0 0)), (.lit (.slice none 0 0)), (.lit (.slice none 0 0)), (.lit (.slice none 0 0))] [(0, (1, (.t 17)))])⟩,
    ⟨(some 19), none, (.box (.t 18))⟩,
    ⟨(some 10), none, (.mv (.t 19))⟩])
  (.seq (.seq (.reg [] [⟨(some 20), none, (.mv (.t 0))⟩,
    ⟨(some 21), none, (.len (.t 20))⟩,
    ⟨(some 22), none, (.mv (.k (.lit (.int .i64 0))))⟩])
  (.block 0 (.loop (.seq (.reg [] [⟨(some 23), none, (.bin .lss (.t 22) (.t 21))⟩])
  (.seq (.cond (.t 23) .skip (.exit 0))
  (.seq (.block 1 (.reg [] [⟨(some 24), none, (.mv (.t 10))⟩,
    ⟨(some 25), none, (.mv (.t 10))⟩,
    ⟨(some 26), none, (.nck (.t 25))⟩,
    ⟨(some 27), none, (.fad 3 (.t 26))⟩,
    ⟨(some 28), none, (.ld false 1 (.t 27))⟩,
    ⟨(some 29), none, (.bsl 1 1 [(.lit (.int .i64 0))] [(0, (1, (.k (.lit (.int .i64 (-1))))))])⟩,
    ⟨(some 30), none, (.app 1 8 (.t 28) (.t 29))⟩,
    ⟨(some 31), none, (.nck (.t 24))⟩,
    ⟨(some 32), none, (.fad 3 (.t 31))⟩,
    ⟨none, none, (.st 1 (.t 32) (.t 30))⟩]))
  (.reg [] [⟨(some 33), none, (.bin .add (.t 22) (.k (.lit (.int .i64 1))))⟩,
    ⟨(some 22), none, (.mv (.t 33))⟩])))))))
  (.seq (.seq (.regd [] [[], [], [0, 1], [2], [], [], [4, 5], [6], [], [], [8, 9], [10], [3, 7, 11]] [(⟨(some 34), none, (.mv (.t 0))⟩, ⟨[], none, false, false⟩),
    (⟨(some 35), none, (.mv (.t 1))⟩, ⟨[], none, false, false⟩),
    (⟨(some 36), none, (.iad 2 (.t 34) (.t 35))⟩, ⟨[], none, false, false⟩),
    (⟨(some 37), none, (.ld true 2 (.t 36))⟩, ⟨[], none, true, false⟩),
    (⟨(some 38), none, (.mv (.t 0))⟩, ⟨[], none, false, false⟩),
    (⟨(some 39), none, (.mv (.t 2))⟩, ⟨[], none, false, false⟩),
    (⟨(some 40), none, (.iad 2 (.t 38) (.t 39))⟩, ⟨[], none, false, false⟩),
    (⟨(some 41), none, (.ld true 2 (.t 40))⟩, ⟨[], none, true, false⟩),
    (⟨(some 42), none, (.mv (.t 0))⟩, ⟨[], none, false, false⟩),
    (⟨(some 43), none, (.mv (.t 3))⟩, ⟨[], none, false, false⟩),
    (⟨(some 44), none, (.iad 2 (.t 42) (.t 43))⟩, ⟨[], none, false, false⟩),
    (⟨(some 45), none, (.ld true 2 (.t 44))⟩, ⟨[], none, true, false⟩),
    (⟨(some 46), none, (.call 89 [(.t 37), (.t 41), (.t 45)])⟩, ⟨[], none, true, false⟩)])
  (.block 2 (.seq (.reg [] [⟨(some 48), none, (.bin .eql (.t 46) (.k (.lit (.int .i64 0))))⟩,
    ⟨(some 47), none, (.mv (.t 48))⟩])
  (.cond (.t 47) (.seq (.reg [] [⟨(some 8), none, (.mv (.k (.lit (.pointer none))))⟩,
    ⟨(some 9), none, (.mv (.k (.lit (.bool false))))⟩])
  .ret) (.seq (.reg [] [⟨(some 50), none, (.bin .eql (.t 46) (.k (.lit (.int .i64 (-1)))))⟩,
    ⟨(some 49), none, (.mv (.t 50))⟩])
  (.cond (.t 49) (.reg [] [⟨(some 51), none, (.mv (.t 3))⟩,
    ⟨(some 52), none, (.mv (.t 2))⟩,
    ⟨(some 2), none, (.mv (.t 51))⟩,
    ⟨(some 3), none, (.mv (.t 52))⟩]) .skip))))))
  (.seq (.reg [] [⟨(some 53), none, (.mv (.t 10))⟩,
    ⟨(some 54), none, (.mv (.t 1))⟩,
    ⟨(some 55), none, (.mv (.t 2))⟩,
    ⟨(some 56), none, (.mv (.t 3))⟩,
    ⟨(some 57), none, (.call 113 [(.t 53), (.t 54), (.t 55), (.t 56)])⟩,
    ⟨(some 11), none, (.mv (.t 57))⟩])
  (.seq (.reg [12] [⟨(some 58), none, (.mv (.t 1))⟩,
    ⟨(some 59), none, (.mv (.t 2))⟩,
    ⟨(some 60), none, (.mv (.t 3))⟩,
    ⟨(some 61), none, (.bld [(.lit (.int .i64 0)), (.lit (.int .i64 0)), (.lit (.int .i64 0))] [(0, (1, (.t 58))), (1, (1, (.t 59))), (2, (1, (.t 60)))])⟩,
    ⟨(some 12), none, (.new [(.lit (.int .i64 0)), (.lit (.int .i64 0)), (.lit (.int .i64 0))])⟩,
    ⟨none, none, (.st 3 (.t 12) (.t 61))⟩])
  (.seq (.reg [13] [⟨(some 13), none, (.new [(.lit (.int .i64 0)), (.lit (.int .i64 0)), (.lit (.int .i64 0))])⟩])
  (.seq (.seq (.reg [] [⟨(some 62), none, (.mv (.k (.lit (.int .i64 0))))⟩])
  (.block 3 (.loop (.seq (.reg [] [⟨(some 63), none, (.bin .lss (.t 62) (.k (.lit (.int .i64 3))))⟩])
  (.seq (.cond (.t 63) .skip (.exit 3))
  (.seq (.block 4 (.seq (.reg [] [⟨(some 64), none, (.mv (.t 62))⟩,
    ⟨(some 14), none, (.mv (.t 64))⟩])
  (.seq (.regd [] [[], [], [], [2], [3], [4], [5], [], [7], [8], [9], [10], [1, 6, 11], [0, 0, 1, 2, 3, 4, 5, 6, 7, 8, 9, 10, 11, 12], [13, 12, 12, 0, 1, 2, 3, 4, 5, 6, 7, 8, 9, 10, 11, 12]] [(⟨(some 65), none, (.mv (.t 14))⟩, ⟨[], none, false, false⟩),
    (⟨(some 66), none, (.mv (.t 10))⟩, ⟨[], none, false, false⟩),
    (⟨(some 67), none, (.mv (.t 14))⟩, ⟨[], none, false, false⟩),
    (⟨(some 68), none, (.bin .add (.t 67) (.k (.lit (.int .i64 2))))⟩, ⟨[], none, false, false⟩),
    (⟨(some 69), none, (.bin .rem (.t 68) (.k (.lit (.int .i64 3))))⟩, ⟨[], none, false, false⟩),
    (⟨(some 70), none, (.iaa 3 1 (.t 12) (.t 69))⟩, ⟨[12], none, false, false⟩),
    (⟨(some 71), none, (.ld false 1 (.t 70))⟩, ⟨[12], none, false, false⟩),
    (⟨(some 72), none, (.mv (.t 14))⟩, ⟨[], none, false, false⟩),
    (⟨(some 73), none, (.bin .add (.t 72) (.k (.lit (.int .i64 1))))⟩, ⟨[], none, false, false⟩),
    (⟨(some 74), none, (.bin .rem (.t 73) (.k (.lit (.int .i64 3))))⟩, ⟨[], none, false, false⟩),
    (⟨(some 75), none, (.iaa 3 1 (.t 12) (.t 74))⟩, ⟨[12], none, false, false⟩),
    (⟨(some 76), none, (.ld false 1 (.t 75))⟩, ⟨[12], none, false, false⟩),
    (⟨(some 77), none, (.call 113 [(.t 66), (.t 71), (.t 76), (.k (.lit (.int .i64 (-1))))])⟩, ⟨[], none, true, true⟩),
    (⟨(some 78), none, (.iaa 3 1 (.t 13) (.t 65))⟩, ⟨[13], none, false, false⟩),
    (⟨none, none, (.st 1 (.t 78) (.t 77))⟩, ⟨[13], some 13, false, false⟩)])
  (.reg [] [⟨(some 79), none, (.mv (.t 10))⟩,
    ⟨(some 80), none, (.mv (.t 11))⟩,
    ⟨(some 81), none, (.mv (.t 14))⟩,
    ⟨(some 82), none, (.mv (.t 14))⟩,
    ⟨(some 83), none, (.iaa 3 1 (.t 13) (.t 82))⟩,
    ⟨(some 84), none, (.ld false 1 (.t 83))⟩,
    ⟨(some 85), none, (.call 114 [(.t 79), (.t 80), (.t 81), (.t 84), (.k (.lit (.int .i64 2))), (.k (.lit (.bool false)))])⟩]))))
  (.reg [] [⟨(some 86), none, (.bin .add (.t 62) (.k (.lit (.int .i64 1))))⟩,
    ⟨(some 62), none, (.mv (.t 86))⟩])))))))
  (.seq (.seq (.reg [] [⟨(some 87), none, (.mv (.k (.lit (.int .i64 0))))⟩])
  (.block 5 (.loop (.seq (.reg [] [⟨(some 88), none, (.bin .lss (.t 87) (.k (.lit (.int .i64 3))))⟩])
  (.seq (.cond (.t 88) .skip (.exit 5))
  (.seq (.block 6 (.seq (.reg [] [⟨(some 89), none, (.mv (.t 87))⟩,
    ⟨(some 15), none, (.mv (.t 89))⟩])
  (.regd [] [[], [], [1], [2], [], [4], [5], [6], [7], [0, 3, 8]] [(⟨(some 90), none, (.mv (.t 10))⟩, ⟨[], none, false, false⟩),
    (⟨(some 91), none, (.mv (.t 15))⟩, ⟨[], none, false, false⟩),
    (⟨(some 92), none, (.iaa 3 1 (.t 13) (.t 91))⟩, ⟨[13], none, false, false⟩),
    (⟨(some 93), none, (.ld false 1 (.t 92))⟩, ⟨[13], none, false, false⟩),
    (⟨(some 94), none, (.mv (.t 15))⟩, ⟨[], none, false, false⟩),
    (⟨(some 95), none, (.bin .add (.t 94) (.k (.lit (.int .i64 1))))⟩, ⟨[], none, false, false⟩),
    (⟨(some 96), none, (.bin .rem (.t 95) (.k (.lit (.int .i64 3))))⟩, ⟨[], none, false, false⟩),
    (⟨(some 97), none, (.iaa 3 1 (.t 13) (.t 96))⟩, ⟨[13], none, false, false⟩),
    (⟨(some 98), none, (.ld false 1 (.t 97))⟩, ⟨[13], none, false, false⟩),
    (⟨(some 99), none, (.call 114 [(.t 90), (.t 93), (.k (.lit (.int .i64 1))), (.t 98), (.k (.lit (.int .i64 0))), (.k (.lit (.bool false)))])⟩, ⟨[], none, true, true⟩)])))
  (.reg [] [⟨(some 100), none, (.bin .add (.t 87) (.k (.lit (.int .i64 1))))⟩,
    ⟨(some 87), none, (.mv (.t 100))⟩])))))))
  (.seq (.reg [] [⟨(some 101), none, (.mv (.t 10))⟩,
    ⟨(some 8), none, (.mv (.t 101))⟩,
    ⟨(some 9), none, (.mv (.k (.lit (.bool true))))⟩])
  .ret)))))))))), [(.tmp 8), (.tmp 9)], [19], false⟩
theorem fo72 : compF Tryz.prog 72 = some ⟨fe72.N, fe72.xc.er, fe72.rs⟩ := by kernel_rfl
theorem ox72 : okX fe72.xc = true := by kernel_rfl
theorem hb72 : hasBody Tryz.prog 72 = true := by kernel_rfl
theorem fk72 : FEOK Tryz.prog 72 fe72 := ⟨fo72, ox72, hb72⟩

/-- isohyet/grow.Insert -/
def fe73 : FE := ⟨133, (.seq (.reg [] [⟨(some 6), none, (.mv (.k (.lit (.bool false))))⟩])
  (.seq (.reg [7] [⟨(some 22), none, (.mv (.t 0))⟩,
    ⟨(some 23), none, (.nck (.t 22))⟩,
    ⟨(some 24), none, (.fad 0 (.t 23))⟩,
    ⟨(some 25), none, (.ld false 1 (.t 24))⟩,
    ⟨(some 26), none, (.mv (.t 1))⟩,
    ⟨(some 27), none, (.iad 2 (.t 25) (.t 26))⟩,
    ⟨(some 28), none, (.ld true 2 (.t 27))⟩,
    ⟨(some 7), none, (.new [(.lit (.int .i64 0)), (.lit (.int .i64 0))])⟩,
    ⟨none, none, (.st 2 (.t 7) (.t 28))⟩])
  (.seq (.regd [8] [[], [], [], [], [3], [4], [5], [6], [7], [0, 1, 2, 8], [9], [10], [10], [], [13, 11, 9, 0, 1, 2, 3, 4, 5, 6, 7, 8, 9, 10, 11, 13], [12, 14, 0, 1, 2, 3, 4, 5, 6, 7, 8, 9, 10, 11, 12, 13, 14]] [(⟨(some 30), none, (.mv (.t 0))⟩, ⟨[], none, false, false⟩),
    (⟨(some 31), none, (.ld true 2 (.t 7))⟩, ⟨[7], none, false, false⟩),
    (⟨(some 32), none, (.mv (.t 2))⟩, ⟨[], none, false, false⟩),
    (⟨(some 33), none, (.mv (.t 0))⟩, ⟨[], none, false, false⟩),
    (⟨(some 34), none, (.nck (.t 33))⟩, ⟨[], none, false, false⟩),
    (⟨(some 35), none, (.fad 1 (.t 34))⟩, ⟨[], none, false, false⟩),
    (⟨(some 36), none, (.ld false 1 (.t 35))⟩, ⟨[], none, true, false⟩),
    (⟨(some 37), none, (.len (.t 36))⟩, ⟨[], none, false, false⟩),
    (⟨(some 38), none, (.bin .add (.t 37) (.k (.lit (.int .i64 1))))⟩, ⟨[], none, false, false⟩),
    (⟨(some 39), none, (.call 115 [(.t 30), (.t 31), (.t 32), (.t 38)])⟩, ⟨[], none, true, false⟩),
    (⟨(some 29), none, (.mv (.t 39))⟩, ⟨[], none, false, false⟩),
    (⟨(some 40), none, (.ext (.t 29) 0)⟩, ⟨[], none, false, false⟩),
    (⟨(some 41), none, (.ext (.t 29) 1)⟩, ⟨[], none, false, false⟩),
    (⟨(some 8), none, (.new [(.lit (.int .i64 0)), (.lit (.int .i64 0)), (.lit (.int .i64 0)), (.lit (.int .i64 0))])⟩, ⟨[8], some 8, false, false⟩),
    (⟨none, none, (.st 4 (.t 8) (.t 40))⟩, ⟨[8], some 8, false, false⟩),
    (⟨(some 9), none, (.mv (.t 41))⟩, ⟨[], none, false, false⟩)])
  (.seq (.seq (.reg [] [⟨(some 42), none, (.fad 0 (.t 8))⟩,
    ⟨(some 43), none, (.ld false 1 (.t 42))⟩,
    ⟨(some 44), none, (.bin .eql (.t 43) (.k (.lit (.int .i64 2))))⟩])
  (.cond (.t 44) (.seq (.reg [] [⟨(some 6), none, (.mv (.k (.lit (.bool false))))⟩])
  .ret) .skip))
  (.seq (.reg [10] [⟨(some 46), none, (.mv (.t 0))⟩,
    ⟨(some 47), none, (.ld true 4 (.t 8))⟩,
    ⟨(some 48), none, (.call 116 [(.t 46), (.t 47)])⟩,
    ⟨(some 45), none, (.mv (.t 48))⟩,
    ⟨(some 49), none, (.ext (.t 45) 0)⟩,
    ⟨(some 50), none, (.ext (.t 45) 1)⟩,
    ⟨(some 10), none, (.new [(.lit (.int .i64 0)), (.lit (.int .i64 0))])⟩,
    ⟨none, none, (.st 2 (.t 10) (.t 49))⟩,
    ⟨(some 11), none, (.mv (.t 50))⟩])
  (.seq (.reg [12] [⟨(some 51), none, (.mv (.t 0))⟩,
    ⟨(some 52), none, (.ld true 2 (.t 7))⟩,
    ⟨(some 53), none, (.ld true 4 (.t 8))⟩,
    ⟨(some 54), none, (.call 19 [(.t 51), (.t 52), (.t 53)])⟩,
    ⟨(some 12), none, (.new [(.lit (.slice none 0 0)), (.lit (.slice none 0 0)), (.lit (.bool false))])⟩,
    ⟨none, none, (.st 3 (.t 12) (.t 54))⟩])
  (.seq (.seq (.reg [] [⟨(some 55), none, (.fad 0 (.t 12))⟩,
    ⟨(some 56), none, (.ld false 1 (.t 55))⟩,
    ⟨(some 57), none, (.len (.t 56))⟩,
    ⟨(some 58), none, (.mv (.k (.lit (.int .i64 0))))⟩])
  (.block 0 (.loop (.seq (.reg [] [⟨(some 59), none, (.bin .lss (.t 58) (.t 57))⟩])
  (.seq (.cond (.t 59) .skip (.exit 0))
  (.seq (.block 1 (.seq (.reg [] [⟨(some 60), none, (.iad 1 (.t 56) (.t 58))⟩,
    ⟨(some 61), none, (.ld false 1 (.t 60))⟩,
    ⟨(some 14), none, (.mv (.t 61))⟩])
  (.reg [] [⟨(some 62), none, (.mv (.t 0))⟩,
    ⟨(some 63), none, (.mv (.t 14))⟩,
    ⟨(some 64), none, (.call 117 [(.t 62), (.t 63)])⟩])))
  (.reg [] [⟨(some 65), none, (.bin .add (.t 58) (.k (.lit (.int .i64 1))))⟩,
    ⟨(some 58), none, (.mv (.t 65))⟩])))))))
  (.seq (.reg [] [⟨(some 15), none, (.mv (.k (.lit (.slice none 0 0))))⟩])
  (.seq (.seq (.reg [] [⟨(some 66), none, (.fad 1 (.t 12))⟩,
    ⟨(some 67), none, (.ld false 1 (.t 66))⟩,
    ⟨(some 68), none, (.len (.t 67))⟩,
    ⟨(some 69), none, (.mv (.k (.lit (.int .i64 0))))⟩])
  (.block 2 (.loop (.seq (.reg [] [⟨(some 70), none, (.bin .lss (.t 69) (.t 68))⟩])
  (.seq (.cond (.t 70) .skip (.exit 2))
  (.seq (.block 3 (.seq (.reg [17] [⟨(some 71), none, (.iad 5 (.t 67) (.t 69))⟩,
    ⟨(some 72), none, (.ld true 5 (.t 71))⟩,
    ⟨(some 17), none, (.new [(.lit (.int .i64 0)), (.lit (.int .i64 0)), (.lit (.int .i64 0)), (.lit (.int .i64 0)), (.lit (.bool false))])⟩,
    ⟨none, none, (.st 5 (.t 17) (.t 72))⟩])
  (.seq (.reg [] [⟨(some 73), none, (.mv (.t 0))⟩,
    ⟨(some 74), none, (.fad 0 (.t 17))⟩,
    ⟨(some 75), none, (.ld false 1 (.t 74))⟩,
    ⟨(some 76), none, (.fad 1 (.t 17))⟩,
    ⟨(some 77), none, (.ld false 1 (.t 76))⟩,
    ⟨(some 78), none, (.mv (.t 1))⟩,
    ⟨(some 79), none, (.call 113 [(.t 73), (.t 75), (.t 77), (.t 78)])⟩,
    ⟨(some 18), none, (.mv (.t 79))⟩])
  (.seq (.reg [] [⟨(some 80), none, (.mv (.t 0))⟩,
    ⟨(some 81), none, (.mv (.t 18))⟩,
    ⟨(some 82), none, (.fad 2 (.t 17))⟩,
    ⟨(some 83), none, (.ld false 1 (.t 82))⟩,
    ⟨(some 84), none, (.fad 3 (.t 17))⟩,
    ⟨(some 85), none, (.ld false 1 (.t 84))⟩,
    ⟨(some 86), none, (.fad 4 (.t 17))⟩,
    ⟨(some 87), none, (.ld false 1 (.t 86))⟩,
    ⟨(some 88), none, (.call 114 [(.t 80), (.t 81), (.k (.lit (.int .i64 2))), (.t 83), (.t 85), (.t 87)])⟩])
  (.reg [] [⟨(some 89), none, (.mv (.t 15))⟩,
    ⟨(some 90), none, (.mv (.t 18))⟩,
    ⟨(some 91), none, (.bsl 1 1 [(.lit (.int .i64 0))] [(0, (1, (.t 90)))])⟩,
    ⟨(some 92), none, (.app 1 8 (.t 89) (.t 91))⟩,
    ⟨(some 15), none, (.mv (.t 92))⟩])))))
  (.reg [] [⟨(some 93), none, (.bin .add (.t 69) (.k (.lit (.int .i64 1))))⟩,
    ⟨(some 69), none, (.mv (.t 93))⟩])))))))
  (.seq (.seq (.reg [] [⟨(some 94), none, (.fad 1 (.t 12))⟩,
    ⟨(some 95), none, (.ld false 1 (.t 94))⟩,
    ⟨(some 96), none, (.len (.t 95))⟩,
    ⟨(some 97), none, (.mv (.k (.lit (.int .i64 0))))⟩])
  (.block 4 (.loop (.seq (.reg [] [⟨(some 98), none, (.bin .lss (.t 97) (.t 96))⟩])
  (.seq (.cond (.t 98) .skip (.exit 4))
  (.seq (.block 5 (.seq (.reg [20] [⟨(some 99), none, (.mv (.t 97))⟩,
    ⟨(some 100), none, (.iad 5 (.t 95) (.t 97))⟩,
    ⟨(some 101), none, (.ld true 5 (.t 100))⟩,
    ⟨(some 20), none, (.new [(.lit (.int .i64 0)), (.lit (.int .i64 0)), (.lit (.int .i64 0)), (.lit (.int .i64 0)), (.lit (.bool false))])⟩,
    ⟨(some 19), none, (.mv (.t 99))⟩,
    ⟨none, none, (.st 5 (.t 20) (.t 101))⟩])
  (.seq (.reg [] [⟨(some 102), none, (.mv (.t 11))⟩,
    ⟨(some 103), none, (.mv (.t 102))⟩,
    ⟨(some 104), (some (103, true)), (.fad 1 (.t 20))⟩,
    ⟨(some 105), (some (103, true)), (.ld false 1 (.t 104))⟩,
    ⟨(some 106), (some (103, true)), (.iaa 2 1 (.t 10) (.k (.lit (.int .i64 0))))⟩,
    ⟨(some 107), (some (103, true)), (.ld false 1 (.t 106))⟩,
    ⟨(some 108), (some (103, true)), (.bin .eql (.t 105) (.t 107))⟩,
    ⟨(some 109), (some (103, true)), (.mv (.t 108))⟩,
    ⟨(some 110), (some (109, false)), (.fad 1 (.t 20))⟩,
    ⟨(some 111), (some (109, false)), (.ld false 1 (.t 110))⟩,
    ⟨(some 112), (some (109, false)), (.iaa 2 1 (.t 10) (.k (.lit (.int .i64 1))))⟩,
    ⟨(some 113), (some (109, false)), (.ld false 1 (.t 112))⟩,
    ⟨(some 114), (some (109, false)), (.bin .eql (.t 111) (.t 113))⟩,
    ⟨(some 115), (some (103, true)), (.pick (.t 109) (.k (.lit (.bool true))) (.t 114))⟩,
    ⟨(some 116), none, (.pick (.t 103) (.t 115) (.k (.lit (.bool false))))⟩,
    ⟨(some 21), none, (.mv (.t 116))⟩])
  (.regd [] [[], [], [], [1, 2], [3], [], [], [6], [], [8], [7, 9], [5, 10], [11], [], [0, 4, 12, 13]] [(⟨(some 117), none, (.mv (.t 0))⟩, ⟨[], none, false, false⟩),
    (⟨(some 118), none, (.mv (.t 15))⟩, ⟨[], none, false, false⟩),
    (⟨(some 119), none, (.mv (.t 19))⟩, ⟨[], none, false, false⟩),
    (⟨(some 120), none, (.iad 1 (.t 118) (.t 119))⟩, ⟨[], none, false, false⟩),
    (⟨(some 121), none, (.ld false 1 (.t 120))⟩, ⟨[], none, true, false⟩),
    (⟨(some 122), none, (.mv (.t 15))⟩, ⟨[], none, false, false⟩),
    (⟨(some 123), none, (.mv (.t 19))⟩, ⟨[], none, false, false⟩),
    (⟨(some 124), none, (.bin .add (.t 123) (.k (.lit (.int .i64 1))))⟩, ⟨[], none, false, false⟩),
    (⟨(some 125), none, (.mv (.t 15))⟩, ⟨[], none, false, false⟩),
    (⟨(some 126), none, (.len (.t 125))⟩, ⟨[], none, false, false⟩),
    (⟨(some 127), none, (.bin .rem (.t 124) (.t 126))⟩, ⟨[], none, false, false⟩),
    (⟨(some 128), none, (.iad 1 (.t 122) (.t 127))⟩, ⟨[], none, false, false⟩),
    (⟨(some 129), none, (.ld false 1 (.t 128))⟩, ⟨[], none, true, false⟩),
    (⟨(some 130), none, (.mv (.t 21))⟩, ⟨[], none, false, false⟩),
    (⟨(some 131), none, (.call 114 [(.t 117), (.t 121), (.k (.lit (.int .i64 0))), (.t 129), (.k (.lit (.int .i64 1))), (.t 130)])⟩, ⟨[], none, true, true⟩)]))))
  (.reg [] [⟨(some 132), none, (.bin .add (.t 97) (.k (.lit (.int .i64 1))))⟩,
    ⟨(some 97), none, (.mv (.t 132))⟩])))))))
  (.seq (.reg [] [⟨(some 6), none, (.mv (.k (.lit (.bool true))))⟩])
  .ret))))))))))), [(.tmp 6)], [], false⟩
theorem fo73 : compF Tryz.prog 73 = some ⟨fe73.N, fe73.xc.er, fe73.rs⟩ := by kernel_rfl
theorem ox73 : okX fe73.xc = true := by kernel_rfl
theorem hb73 : hasBody Tryz.prog 73 = true := by kernel_rfl
theorem fk73 : FEOK Tryz.prog 73 fe73 := ⟨fo73, ox73, hb73⟩

/-- (*isohyet/mesh.Mesh).At -/
def fe74 : FE := ⟨12, (.seq (.reg [] [⟨(some 4), none, (.mv (.k (.lit (.int .i64 0))))⟩])
  (.seq (.reg [] [⟨(some 5), none, (.mv (.t 0))⟩,
    ⟨(some 6), none, (.nck (.t 5))⟩,
    ⟨(some 7), none, (.fad 3 (.t 6))⟩,
    ⟨(some 8), none, (.ld false 1 (.t 7))⟩,
    ⟨(some 9), none, (.mv (.t 1))⟩,
    ⟨(some 10), none, (.iad 1 (.t 8) (.t 9))⟩,
    ⟨(some 11), none, (.ld false 1 (.t 10))⟩,
    ⟨(some 4), none, (.mv (.t 11))⟩])
  .ret)), [(.tmp 4)], [], true⟩
theorem fo74 : compF Tryz.prog 74 = some ⟨fe74.N, fe74.xc.er, fe74.rs⟩ := by kernel_rfl
theorem ox74 : okX fe74.xc = true := by kernel_rfl
theorem hb74 : hasBody Tryz.prog 74 = true := by kernel_rfl
theorem fk74 : FEOK Tryz.prog 74 fe74 := ⟨fo74, ox74, hb74⟩

/-- (*isohyet/mesh.Mesh).All -/
def fe75 : FE := ⟨4, (.seq (.reg [] [⟨(some 1), none, (.box (.t 0))⟩,
    ⟨(some 2), none, (.mv (.k (.lit .nilFunc)))⟩])
  (.seq (.reg [] [⟨(some 3), none, (.mkf 118 [(.t 1)])⟩,
    ⟨(some 2), none, (.mv (.t 3))⟩])
  .ret)), [(.tmp 2)], [1], true⟩
theorem fo75 : compF Tryz.prog 75 = some ⟨fe75.N, fe75.xc.er, fe75.rs⟩ := by kernel_rfl
theorem ox75 : okX fe75.xc = true := by kernel_rfl
theorem hb75 : hasBody Tryz.prog 75 = true := by kernel_rfl
theorem fk75 : FEOK Tryz.prog 75 fe75 := ⟨fo75, ox75, hb75⟩

/-- isohyet/walk.Holds -/
def fe76 : FE := ⟨34, (.seq (.reg [5] [⟨(some 5), none, (.box (.t 2))⟩,
    ⟨(some 6), none, (.mv (.k (.lit (.bool false))))⟩])
  (.seq (.reg [7] [⟨(some 8), none, (.mv (.t 0))⟩,
    ⟨(some 9), none, (.nck (.t 8))⟩,
    ⟨(some 10), none, (.fad 1 (.t 9))⟩,
    ⟨(some 11), none, (.ld false 1 (.t 10))⟩,
    ⟨(some 12), none, (.mv (.t 1))⟩,
    ⟨(some 13), none, (.iad 9 (.t 11) (.t 12))⟩,
    ⟨(some 14), none, (.ld true 9 (.t 13))⟩,
    ⟨(some 7), none, (.new [(.lit (.int .i64 0)), (.lit (.int .i64 0)), (.lit (.int .i64 0)), (.lit (.int .i64 0)), (.lit (.int .i64 0)), (.lit (.int .i64 0)), (.lit (.bool false)), (.lit (.bool false)), (.lit (.bool false))])⟩,
    ⟨none, none, (.st 9 (.t 7) (.t 14))⟩])
  (.seq (.reg [] [⟨(some 15), none, (.mv (.t 0))⟩,
    ⟨(some 16), none, (.ld true 9 (.t 7))⟩,
    ⟨(some 17), none, (.ld true 2 (.t 5))⟩,
    ⟨(some 18), none, (.call 78 [(.t 15), (.t 16), (.k (.lit (.int .i64 0))), (.t 17)])⟩,
    ⟨(some 19), none, (.un .not (.t 18))⟩,
    ⟨(some 20), none, (.mv (.t 19))⟩,
    ⟨(some 21), (some (20, true)), (.mv (.t 0))⟩,
    ⟨(some 22), (some (20, true)), (.ld true 9 (.t 7))⟩,
    ⟨(some 23), (some (20, true)), (.ld true 2 (.t 5))⟩,
    ⟨(some 24), (some (20, true)), (.call 78 [(.t 21), (.t 22), (.k (.lit (.int .i64 1))), (.t 23)])⟩,
    ⟨(some 25), (some (20, true)), (.un .not (.t 24))⟩,
    ⟨(some 26), none, (.pick (.t 20) (.t 25) (.k (.lit (.bool false))))⟩,
    ⟨(some 27), none, (.mv (.t 26))⟩,
    ⟨(some 28), (some (27, true)), (.mv (.t 0))⟩,
    ⟨(some 29), (some (27, true)), (.ld true 9 (.t 7))⟩,
    ⟨(some 30), (some (27, true)), (.ld true 2 (.t 5))⟩,
    ⟨(some 31), (some (27, true)), (.call 78 [(.t 28), (.t 29), (.k (.lit (.int .i64 2))), (.t 30)])⟩,
    ⟨(some 32), (some (27, true)), (.un .not (.t 31))⟩,
    ⟨(some 33), none, (.pick (.t 27) (.t 32) (.k (.lit (.bool false))))⟩,
    ⟨(some 6), none, (.mv (.t 33))⟩])
  .ret))), [(.tmp 6)], [], true⟩
theorem fo76 : compF Tryz.prog 76 = some ⟨fe76.N, fe76.xc.er, fe76.rs⟩ := by kernel_rfl
theorem ox76 : okX fe76.xc = true := by kernel_rfl
theorem hb76 : hasBody Tryz.prog 76 = true := by kernel_rfl
theorem fk76 : FEOK Tryz.prog 76 fe76 := ⟨fo76, ox76, hb76⟩

end Iso
