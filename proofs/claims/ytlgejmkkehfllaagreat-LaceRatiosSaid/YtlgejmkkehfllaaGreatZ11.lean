import Derived.Test.YtlgejmkkehfllaaGreatZ10
import Derived.Test.YtlgejmkkehfllaaGreatProg
/- The code of functions, as the runner wants it. -/
namespace Iso
open Go Go.Proofs

/-- isohyet/walk.within -/
def fe77 : FE := ⟨79, (.seq (.reg [5, 6] [⟨(some 5), none, (.box (.t 2))⟩,
    ⟨(some 6), none, (.new [(.lit (.int .i64 0)), (.lit (.int .i64 0)), (.lit (.int .i64 0)), (.lit (.int .i64 0))])⟩])
  (.seq (.reg [7] [⟨(some 13), none, (.mv (.t 0))⟩,
    ⟨(some 14), none, (.nck (.t 13))⟩,
    ⟨(some 15), none, (.fad 1 (.t 14))⟩,
    ⟨(some 16), none, (.ld false 1 (.t 15))⟩,
    ⟨(some 17), none, (.mv (.t 1))⟩,
    ⟨(some 18), none, (.iad 9 (.t 16) (.t 17))⟩,
    ⟨(some 19), none, (.fad 0 (.t 18))⟩,
    ⟨(some 20), none, (.ld true 3 (.t 19))⟩,
    ⟨(some 7), none, (.new [(.lit (.int .i64 0)), (.lit (.int .i64 0)), (.lit (.int .i64 0))])⟩,
    ⟨none, none, (.st 3 (.t 7) (.t 20))⟩])
  (.seq (.seq (.reg [] [⟨(some 21), none, (.ld true 3 (.t 7))⟩,
    ⟨(some 22), none, (.mv (.k (.lit (.int .i64 0))))⟩])
  (.block 0 (.loop (.seq (.reg [] [⟨(some 23), none, (.bin .lss (.t 22) (.k (.lit (.int .i64 3))))⟩])
  (.seq (.cond (.t 23) .skip (.exit 0))
  (.seq (.block 1 (.seq (.reg [] [⟨(some 24), none, (.ixa 3 1 false (.t 21) (.t 22))⟩,
    ⟨(some 9), none, (.mv (.t 24))⟩])
  (.seq (.regd [] [[], [0], [1], [2], [], [3, 4], [5], [], [6, 7]] [(⟨(some 25), none, (.mv (.t 0))⟩, ⟨[], none, false, false⟩),
    (⟨(some 26), none, (.nck (.t 25))⟩, ⟨[], none, false, false⟩),
    (⟨(some 27), none, (.fad 0 (.t 26))⟩, ⟨[], none, false, false⟩),
    (⟨(some 28), none, (.ld false 1 (.t 27))⟩, ⟨[], none, true, false⟩),
    (⟨(some 29), none, (.mv (.t 9))⟩, ⟨[], none, false, false⟩),
    (⟨(some 30), none, (.iad 2 (.t 28) (.t 29))⟩, ⟨[], none, false, false⟩),
    (⟨(some 31), none, (.ld true 2 (.t 30))⟩, ⟨[], none, true, false⟩),
    (⟨(some 32), none, (.ld true 2 (.t 5))⟩, ⟨[5], none, false, false⟩),
    (⟨(some 33), none, (.eqc false [true, true] (.t 31) (.t 32))⟩, ⟨[], none, false, false⟩)])
  (.cond (.t 33) (.seq (.reg [] [⟨(some 34), none, (.mv (.t 1))⟩,
    ⟨(some 35), none, (.mv (.t 9))⟩,
    ⟨(some 36), none, (.bld [(.lit (.int .i64 0)), (.lit (.int .i64 0)), (.lit (.int .i64 0)), (.lit (.int .i64 0))] [(0, (1, (.k (.lit (.int .i64 2))))), (1, (1, (.t 34))), (2, (1, (.t 35)))])⟩,
    ⟨none, none, (.st 4 (.t 6) (.t 36))⟩])
  .ret) .skip))))
  (.reg [] [⟨(some 37), none, (.bin .add (.t 22) (.k (.lit (.int .i64 1))))⟩,
    ⟨(some 22), none, (.mv (.t 37))⟩])))))))
  (.seq (.seq (.reg [] [⟨(some 38), none, (.mv (.k (.lit (.int .i64 0))))⟩])
  (.block 2 (.loop (.seq (.reg [] [⟨(some 39), none, (.bin .lss (.t 38) (.k (.lit (.int .i64 3))))⟩])
  (.seq (.cond (.t 39) .skip (.exit 2))
  (.seq (.block 3 (.seq (.reg [] [⟨(some 40), none, (.mv (.t 38))⟩,
    ⟨(some 10), none, (.mv (.t 40))⟩])
  (.seq (.regd [] [[], [0], [1], [2], [3], [], [5], [6], [7], [8], [4, 0, 1, 2, 3, 4], [9, 10, 0, 1, 2, 3, 4, 5, 6, 7, 8, 9, 10]] [(⟨(some 41), none, (.mv (.t 10))⟩, ⟨[], none, false, false⟩),
    (⟨(some 42), none, (.bin .add (.t 41) (.k (.lit (.int .i64 1))))⟩, ⟨[], none, false, false⟩),
    (⟨(some 43), none, (.bin .rem (.t 42) (.k (.lit (.int .i64 3))))⟩, ⟨[], none, false, false⟩),
    (⟨(some 44), none, (.iaa 3 1 (.t 7) (.t 43))⟩, ⟨[7], none, false, false⟩),
    (⟨(some 45), none, (.ld false 1 (.t 44))⟩, ⟨[7], none, false, false⟩),
    (⟨(some 46), none, (.mv (.t 10))⟩, ⟨[], none, false, false⟩),
    (⟨(some 47), none, (.bin .add (.t 46) (.k (.lit (.int .i64 2))))⟩, ⟨[], none, false, false⟩),
    (⟨(some 48), none, (.bin .rem (.t 47) (.k (.lit (.int .i64 3))))⟩, ⟨[], none, false, false⟩),
    (⟨(some 49), none, (.iaa 3 1 (.t 7) (.t 48))⟩, ⟨[7], none, false, false⟩),
    (⟨(some 50), none, (.ld false 1 (.t 49))⟩, ⟨[7], none, false, false⟩),
    (⟨(some 11), none, (.mv (.t 45))⟩, ⟨[], none, false, false⟩),
    (⟨(some 12), none, (.mv (.t 50))⟩, ⟨[], none, false, false⟩)])
  (.seq (.regd [] [[], [0], [1], [2], [], [3, 4], [5], [], [7], [8], [9], [], [10, 11], [12], [], [6, 13, 14], [15]] [(⟨(some 51), none, (.mv (.t 0))⟩, ⟨[], none, false, false⟩),
    (⟨(some 52), none, (.nck (.t 51))⟩, ⟨[], none, false, false⟩),
    (⟨(some 53), none, (.fad 0 (.t 52))⟩, ⟨[], none, false, false⟩),
    (⟨(some 54), none, (.ld false 1 (.t 53))⟩, ⟨[], none, true, false⟩),
    (⟨(some 55), none, (.mv (.t 11))⟩, ⟨[], none, false, false⟩),
    (⟨(some 56), none, (.iad 2 (.t 54) (.t 55))⟩, ⟨[], none, false, false⟩),
    (⟨(some 57), none, (.ld true 2 (.t 56))⟩, ⟨[], none, true, false⟩),
    (⟨(some 58), none, (.mv (.t 0))⟩, ⟨[], none, false, false⟩),
    (⟨(some 59), none, (.nck (.t 58))⟩, ⟨[], none, false, false⟩),
    (⟨(some 60), none, (.fad 0 (.t 59))⟩, ⟨[], none, false, false⟩),
    (⟨(some 61), none, (.ld false 1 (.t 60))⟩, ⟨[], none, true, false⟩),
    (⟨(some 62), none, (.mv (.t 12))⟩, ⟨[], none, false, false⟩),
    (⟨(some 63), none, (.iad 2 (.t 61) (.t 62))⟩, ⟨[], none, false, false⟩),
    (⟨(some 64), none, (.ld true 2 (.t 63))⟩, ⟨[], none, true, false⟩),
    (⟨(some 65), none, (.ld true 2 (.t 5))⟩, ⟨[5], none, false, false⟩),
    (⟨(some 66), none, (.call 89 [(.t 57), (.t 64), (.t 65)])⟩, ⟨[], none, true, false⟩),
    (⟨(some 67), none, (.bin .eql (.t 66) (.k (.lit (.int .i64 0))))⟩, ⟨[], none, false, false⟩)])
  (.cond (.t 67) (.seq (.reg [] [⟨(some 68), none, (.mv (.t 1))⟩,
    ⟨(some 69), none, (.mv (.t 11))⟩,
    ⟨(some 70), none, (.mv (.t 12))⟩,
    ⟨(some 71), none, (.mnx false [(.t 69), (.t 70)])⟩,
    ⟨(some 72), none, (.mv (.t 11))⟩,
    ⟨(some 73), none, (.mv (.t 12))⟩,
    ⟨(some 74), none, (.mnx true [(.t 72), (.t 73)])⟩,
    ⟨(some 75), none, (.bld [(.lit (.int .i64 0)), (.lit (.int .i64 0)), (.lit (.int .i64 0)), (.lit (.int .i64 0))] [(0, (1, (.k (.lit (.int .i64 1))))), (1, (1, (.t 68))), (2, (1, (.t 71))), (3, (1, (.t 74)))])⟩,
    ⟨none, none, (.st 4 (.t 6) (.t 75))⟩])
  .ret) .skip)))))
  (.reg [] [⟨(some 76), none, (.bin .add (.t 38) (.k (.lit (.int .i64 1))))⟩,
    ⟨(some 38), none, (.mv (.t 76))⟩])))))))
  (.seq (.reg [] [⟨(some 77), none, (.mv (.t 1))⟩,
    ⟨(some 78), none, (.bld [(.lit (.int .i64 0)), (.lit (.int .i64 0)), (.lit (.int .i64 0)), (.lit (.int .i64 0))] [(0, (1, (.k (.lit (.int .i64 0))))), (1, (1, (.t 77)))])⟩,
    ⟨none, none, (.st 4 (.t 6) (.t 78))⟩])
  .ret))))), [(.cell 6 true 4)], [], true⟩
theorem fo77 : compF Tryz.prog 77 = some ⟨fe77.N, fe77.xc.er, fe77.rs⟩ := by kernel_rfl
theorem ox77 : okX fe77.xc = true := by kernel_rfl
theorem hb77 : hasBody Tryz.prog 77 = true := by kernel_rfl
theorem fk77 : FEOK Tryz.prog 77 fe77 := ⟨fo77, ox77, hb77⟩

/-- isohyet/walk.beyond -/
def fe78 : FE := ⟨36, (.seq (.reg [5, 7] [⟨(some 5), none, (.box (.t 1))⟩,
    ⟨(some 7), none, (.box (.t 3))⟩,
    ⟨(some 8), none, (.mv (.k (.lit (.bool false))))⟩])
  (.seq (.regd [] [[], [0], [1], [2], [], [4], [5], [], [7, 6], [8], [3, 9], [10], [], [12], [13], [14], [], [16], [17], [], [19, 18], [20], [15, 21], [22], [], [11, 23, 24], [25], [26, 25, 0, 1, 2, 3, 4, 5, 6, 7, 8, 9, 10, 11, 12, 13, 14, 15, 16, 17, 18, 19, 20, 21, 22, 23, 24, 25, 26]] [(⟨(some 9), none, (.mv (.t 0))⟩, ⟨[], none, false, false⟩),
    (⟨(some 10), none, (.nck (.t 9))⟩, ⟨[], none, false, false⟩),
    (⟨(some 11), none, (.fad 0 (.t 10))⟩, ⟨[], none, false, false⟩),
    (⟨(some 12), none, (.ld false 1 (.t 11))⟩, ⟨[], none, true, false⟩),
    (⟨(some 13), none, (.mv (.t 2))⟩, ⟨[], none, false, false⟩),
    (⟨(some 14), none, (.bin .add (.t 13) (.k (.lit (.int .i64 1))))⟩, ⟨[], none, false, false⟩),
    (⟨(some 15), none, (.bin .rem (.t 14) (.k (.lit (.int .i64 3))))⟩, ⟨[], none, false, false⟩),
    (⟨(some 16), none, (.fad 0 (.t 5))⟩, ⟨[5], none, false, false⟩),
    (⟨(some 17), none, (.iaa 3 1 (.t 16) (.t 15))⟩, ⟨[5], none, false, false⟩),
    (⟨(some 18), none, (.ld false 1 (.t 17))⟩, ⟨[5], none, false, false⟩),
    (⟨(some 19), none, (.iad 2 (.t 12) (.t 18))⟩, ⟨[], none, false, false⟩),
    (⟨(some 20), none, (.ld true 2 (.t 19))⟩, ⟨[], none, true, false⟩),
    (⟨(some 21), none, (.mv (.t 0))⟩, ⟨[], none, false, false⟩),
    (⟨(some 22), none, (.nck (.t 21))⟩, ⟨[], none, false, false⟩),
    (⟨(some 23), none, (.fad 0 (.t 22))⟩, ⟨[], none, false, false⟩),
    (⟨(some 24), none, (.ld false 1 (.t 23))⟩, ⟨[], none, true, false⟩),
    (⟨(some 25), none, (.mv (.t 2))⟩, ⟨[], none, false, false⟩),
    (⟨(some 26), none, (.bin .add (.t 25) (.k (.lit (.int .i64 2))))⟩, ⟨[], none, false, false⟩),
    (⟨(some 27), none, (.bin .rem (.t 26) (.k (.lit (.int .i64 3))))⟩, ⟨[], none, false, false⟩),
    (⟨(some 28), none, (.fad 0 (.t 5))⟩, ⟨[5], none, false, false⟩),
    (⟨(some 29), none, (.iaa 3 1 (.t 28) (.t 27))⟩, ⟨[5], none, false, false⟩),
    (⟨(some 30), none, (.ld false 1 (.t 29))⟩, ⟨[5], none, false, false⟩),
    (⟨(some 31), none, (.iad 2 (.t 24) (.t 30))⟩, ⟨[], none, false, false⟩),
    (⟨(some 32), none, (.ld true 2 (.t 31))⟩, ⟨[], none, true, false⟩),
    (⟨(some 33), none, (.ld true 2 (.t 7))⟩, ⟨[7], none, false, false⟩),
    (⟨(some 34), none, (.call 89 [(.t 20), (.t 32), (.t 33)])⟩, ⟨[], none, true, false⟩),
    (⟨(some 35), none, (.bin .lss (.t 34) (.k (.lit (.int .i64 0))))⟩, ⟨[], none, false, false⟩),
    (⟨(some 8), none, (.mv (.t 35))⟩, ⟨[], none, false, false⟩)])
  .ret)), [(.tmp 8)], [], true⟩
theorem fo78 : compF Tryz.prog 78 = some ⟨fe78.N, fe78.xc.er, fe78.rs⟩ := by kernel_rfl
theorem ox78 : okX fe78.xc = true := by kernel_rfl
theorem hb78 : hasBody Tryz.prog 78 = true := by kernel_rfl
theorem fk78 : FEOK Tryz.prog 78 fe78 := ⟨fo78, ox78, hb78⟩

/-- isohyet/num.Cmp -/
def fe80 : FE := ⟨26, (.seq (.reg [2, 3] [⟨(some 2), none, (.box (.t 0))⟩,
    ⟨(some 3), none, (.box (.t 1))⟩,
    ⟨(some 4), none, (.mv (.k (.lit (.int .i64 0))))⟩])
  (.seq (.regd [] [[], [0], [], [2, 1], [1, 3, 0, 1], [3, 4, 0, 1, 2, 3, 4]] [(⟨(some 7), none, (.ld true 2 (.t 2))⟩, ⟨[2], none, false, false⟩),
    (⟨(some 8), none, (.call 66 [(.t 7)])⟩, ⟨[], none, true, false⟩),
    (⟨(some 9), none, (.ld true 2 (.t 3))⟩, ⟨[3], none, false, false⟩),
    (⟨(some 10), none, (.call 66 [(.t 9)])⟩, ⟨[], none, true, false⟩),
    (⟨(some 5), none, (.mv (.t 8))⟩, ⟨[], none, false, false⟩),
    (⟨(some 6), none, (.mv (.t 10))⟩, ⟨[], none, false, false⟩)])
  (.seq (.block 0 (.seq (.reg [] [⟨(some 12), none, (.mv (.t 5))⟩,
    ⟨(some 13), none, (.mv (.t 6))⟩,
    ⟨(some 14), none, (.bin .lss (.t 12) (.t 13))⟩,
    ⟨(some 11), none, (.mv (.t 14))⟩])
  (.cond (.t 11) (.seq (.reg [] [⟨(some 4), none, (.mv (.k (.lit (.int .i64 (-1)))))⟩])
  .ret) (.seq (.reg [] [⟨(some 16), none, (.mv (.t 5))⟩,
    ⟨(some 17), none, (.mv (.t 6))⟩,
    ⟨(some 18), none, (.bin .gtr (.t 16) (.t 17))⟩,
    ⟨(some 15), none, (.mv (.t 18))⟩])
  (.cond (.t 15) (.seq (.reg [] [⟨(some 4), none, (.mv (.k (.lit (.int .i64 1))))⟩])
  .ret) .skip)))))
  (.seq (.reg [] [⟨(some 19), none, (.mv (.t 5))⟩,
    ⟨(some 20), none, (.fad 1 (.t 2))⟩,
    ⟨(some 21), none, (.ld false 1 (.t 20))⟩,
    ⟨(some 22), none, (.fad 1 (.t 3))⟩,
    ⟨(some 23), none, (.ld false 1 (.t 22))⟩,
    ⟨(some 24), none, (.call 107 [(.t 21), (.t 23)])⟩,
    ⟨(some 25), none, (.bin .mul (.t 19) (.t 24))⟩,
    ⟨(some 4), none, (.mv (.t 25))⟩])
  .ret)))), [(.tmp 4)], [], true⟩
theorem fo80 : compF Tryz.prog 80 = some ⟨fe80.N, fe80.xc.er, fe80.rs⟩ := by kernel_rfl
theorem ox80 : okX fe80.xc = true := by kernel_rfl
theorem hb80 : hasBody Tryz.prog 80 = true := by kernel_rfl
theorem fk80 : FEOK Tryz.prog 80 fe80 := ⟨fo80, ox80, hb80⟩

/-- isohyet/frac.one -/
def fe81 : FE := ⟨2, (.seq (.reg [] [⟨(some 0), none, (.mv (.k (.lit (.slice none 0 0))))⟩])
  (.seq (.reg [] [⟨(some 1), none, (.bsl 1 1 [(.lit (.int .u64 0))] [(0, (1, (.k (.lit (.int .u64 1)))))])⟩,
    ⟨(some 0), none, (.mv (.t 1))⟩])
  .ret)), [(.tmp 0)], [1], true⟩
theorem fo81 : compF Tryz.prog 81 = some ⟨fe81.N, fe81.xc.er, fe81.rs⟩ := by kernel_rfl
theorem ox81 : okX fe81.xc = true := by kernel_rfl
theorem hb81 : hasBody Tryz.prog 81 = true := by kernel_rfl
theorem fk81 : FEOK Tryz.prog 81 fe81 := ⟨fo81, ox81, hb81⟩

/-- isohyet/mag.Of -/
def fe82 : FE := ⟨6, (.seq (.reg [] [⟨(some 2), none, (.mv (.k (.lit (.slice none 0 0))))⟩])
  (.seq (.reg [] [⟨(some 3), none, (.mv (.t 0))⟩,
    ⟨(some 4), none, (.bsl 1 1 [(.lit (.int .u64 0))] [(0, (1, (.t 3)))])⟩,
    ⟨(some 5), none, (.call 106 [(.t 4)])⟩,
    ⟨(some 2), none, (.mv (.t 5))⟩])
  .ret)), [(.tmp 2)], [], true⟩
theorem fo82 : compF Tryz.prog 82 = some ⟨fe82.N, fe82.xc.er, fe82.rs⟩ := by kernel_rfl
theorem ox82 : okX fe82.xc = true := by kernel_rfl
theorem hb82 : hasBody Tryz.prog 82 = true := by kernel_rfl
theorem fk82 : FEOK Tryz.prog 82 fe82 := ⟨fo82, ox82, hb82⟩

/-- (*isohyet/mesh.Mesh).Around -/
def fe88 : FE := ⟨6, (.seq (.reg [] [⟨(some 2), none, (.box (.t 0))⟩,
    ⟨(some 3), none, (.box (.t 1))⟩,
    ⟨(some 4), none, (.mv (.k (.lit .nilFunc)))⟩])
  (.seq (.reg [] [⟨(some 5), none, (.mkf 126 [(.t 2), (.t 3)])⟩,
    ⟨(some 4), none, (.mv (.t 5))⟩])
  .ret)), [(.tmp 4)], [2, 3], true⟩
theorem fo88 : compF Tryz.prog 88 = some ⟨fe88.N, fe88.xc.er, fe88.rs⟩ := by kernel_rfl
theorem ox88 : okX fe88.xc = true := by kernel_rfl
theorem hb88 : hasBody Tryz.prog 88 = true := by kernel_rfl
theorem fk88 : FEOK Tryz.prog 88 fe88 := ⟨fo88, ox88, hb88⟩

/-- isohyet/pred.Orient -/
def fe89 : FE := ⟨12, (.seq (.reg [3, 4, 5] [⟨(some 3), none, (.box (.t 0))⟩,
    ⟨(some 4), none, (.box (.t 1))⟩,
    ⟨(some 5), none, (.box (.t 2))⟩,
    ⟨(some 6), none, (.mv (.k (.lit (.int .i64 0))))⟩])
  (.seq (.reg [] [⟨(some 7), none, (.ld true 2 (.t 3))⟩,
    ⟨(some 8), none, (.ld true 2 (.t 4))⟩,
    ⟨(some 9), none, (.ld true 2 (.t 5))⟩,
    ⟨(some 10), none, (.call 97 [(.t 7), (.t 8), (.t 9)])⟩,
    ⟨(some 11), none, (.call 128 [(.t 10)])⟩,
    ⟨(some 6), none, (.mv (.t 11))⟩])
  .ret)), [(.tmp 6)], [], true⟩
theorem fo89 : compF Tryz.prog 89 = some ⟨fe89.N, fe89.xc.er, fe89.rs⟩ := by kernel_rfl
theorem ox89 : okX fe89.xc = true := by kernel_rfl
theorem hb89 : hasBody Tryz.prog 89 = true := by kernel_rfl
theorem fk89 : FEOK Tryz.prog 89 fe89 := ⟨fo89, ox89, hb89⟩

/-- isohyet/pred.Between -/
def fe90 : FE := ⟨21, (.seq (.reg [3, 4, 5] [⟨(some 3), none, (.box (.t 0))⟩,
    ⟨(some 4), none, (.box (.t 1))⟩,
    ⟨(some 5), none, (.box (.t 2))⟩,
    ⟨(some 6), none, (.mv (.k (.lit (.bool false))))⟩])
  (.seq (.reg [] [⟨(some 7), none, (.ld true 2 (.t 3))⟩,
    ⟨(some 8), none, (.ld true 2 (.t 4))⟩,
    ⟨(some 9), none, (.eqc true [true, true] (.t 7) (.t 8))⟩,
    ⟨(some 10), none, (.mv (.t 9))⟩,
    ⟨(some 11), (some (10, true)), (.ld true 2 (.t 3))⟩,
    ⟨(some 12), (some (10, true)), (.ld true 2 (.t 5))⟩,
    ⟨(some 13), (some (10, true)), (.eqc true [true, true] (.t 11) (.t 12))⟩,
    ⟨(some 14), none, (.pick (.t 10) (.t 13) (.k (.lit (.bool false))))⟩,
    ⟨(some 15), none, (.mv (.t 14))⟩,
    ⟨(some 16), (some (15, true)), (.ld true 2 (.t 3))⟩,
    ⟨(some 17), (some (15, true)), (.ld true 2 (.t 4))⟩,
    ⟨(some 18), (some (15, true)), (.ld true 2 (.t 5))⟩,
    ⟨(some 19), (some (15, true)), (.call 129 [(.t 16), (.t 17), (.t 18)])⟩,
    ⟨(some 20), none, (.pick (.t 15) (.t 19) (.k (.lit (.bool false))))⟩,
    ⟨(some 6), none, (.mv (.t 20))⟩])
  .ret)), [(.tmp 6)], [], true⟩
theorem fo90 : compF Tryz.prog 90 = some ⟨fe90.N, fe90.xc.er, fe90.rs⟩ := by kernel_rfl
theorem ox90 : okX fe90.xc = true := by kernel_rfl
theorem hb90 : hasBody Tryz.prog 90 = true := by kernel_rfl
theorem fk90 : FEOK Tryz.prog 90 fe90 := ⟨fo90, ox90, hb90⟩

/-- isohyet/pred.Circle -/
def fe91 : FE := ⟨98, (.seq (.reg [4, 5, 6, 7] [⟨(some 4), none, (.box (.t 0))⟩,
    ⟨(some 5), none, (.box (.t 1))⟩,
    ⟨(some 6), none, (.box (.t 2))⟩,
    ⟨(some 7), none, (.box (.t 3))⟩,
    ⟨(some 8), none, (.mv (.k (.lit (.int .i64 0))))⟩])
  (.seq (.regd [] [[], [0], [], [2], [1, 3], [], [5], [], [7], [6, 8], [], [10], [], [12], [11, 13], [], [15], [], [17], [16, 18], [], [20], [], [22], [21, 23], [], [25], [], [27], [26, 28], [4, 0, 1, 2, 3, 4], [9, 30, 0, 1, 2, 3, 4, 5, 6, 7, 8, 9, 30], [14, 31, 0, 1, 2, 3, 4, 5, 6, 7, 8, 9, 10, 11, 12, 13, 14, 30, 31], [19, 32, 0, 1, 2, 3, 4, 5, 6, 7, 8, 9, 10, 11, 12, 13, 14, 15, 16, 17, 18, 19, 30, 31, 32], [24, 33, 0, 1, 2, 3, 4, 5, 6, 7, 8, 9, 10, 11, 12, 13, 14, 15, 16, 17, 18, 19, 20, 21, 22, 23, 24, 30, 31, 32, 33], [29, 34, 0, 1, 2, 3, 4, 5, 6, 7, 8, 9, 10, 11, 12, 13, 14, 15, 16, 17, 18, 19, 20, 21, 22, 23, 24, 25, 26, 27, 28, 29, 30, 31, 32, 33, 34]] [(⟨(some 17), none, (.fad 0 (.t 4))⟩, ⟨[4], none, false, false⟩),
    (⟨(some 18), none, (.ld false 1 (.t 17))⟩, ⟨[4], none, false, false⟩),
    (⟨(some 19), none, (.fad 0 (.t 7))⟩, ⟨[7], none, false, false⟩),
    (⟨(some 20), none, (.ld false 1 (.t 19))⟩, ⟨[7], none, false, false⟩),
    (⟨(some 21), none, (.bin .sub (.t 18) (.t 20))⟩, ⟨[], none, false, false⟩),
    (⟨(some 22), none, (.fad 1 (.t 4))⟩, ⟨[4], none, false, false⟩),
    (⟨(some 23), none, (.ld false 1 (.t 22))⟩, ⟨[4], none, false, false⟩),
    (⟨(some 24), none, (.fad 1 (.t 7))⟩, ⟨[7], none, false, false⟩),
    (⟨(some 25), none, (.ld false 1 (.t 24))⟩, ⟨[7], none, false, false⟩),
    (⟨(some 26), none, (.bin .sub (.t 23) (.t 25))⟩, ⟨[], none, false, false⟩),
    (⟨(some 27), none, (.fad 0 (.t 5))⟩, ⟨[5], none, false, false⟩),
    (⟨(some 28), none, (.ld false 1 (.t 27))⟩, ⟨[5], none, false, false⟩),
    (⟨(some 29), none, (.fad 0 (.t 7))⟩, ⟨[7], none, false, false⟩),
    (⟨(some 30), none, (.ld false 1 (.t 29))⟩, ⟨[7], none, false, false⟩),
    (⟨(some 31), none, (.bin .sub (.t 28) (.t 30))⟩, ⟨[], none, false, false⟩),
    (⟨(some 32), none, (.fad 1 (.t 5))⟩, ⟨[5], none, false, false⟩),
    (⟨(some 33), none, (.ld false 1 (.t 32))⟩, ⟨[5], none, false, false⟩),
    (⟨(some 34), none, (.fad 1 (.t 7))⟩, ⟨[7], none, false, false⟩),
    (⟨(some 35), none, (.ld false 1 (.t 34))⟩, ⟨[7], none, false, false⟩),
    (⟨(some 36), none, (.bin .sub (.t 33) (.t 35))⟩, ⟨[], none, false, false⟩),
    (⟨(some 37), none, (.fad 0 (.t 6))⟩, ⟨[6], none, false, false⟩),
    (⟨(some 38), none, (.ld false 1 (.t 37))⟩, ⟨[6], none, false, false⟩),
    (⟨(some 39), none, (.fad 0 (.t 7))⟩, ⟨[7], none, false, false⟩),
    (⟨(some 40), none, (.ld false 1 (.t 39))⟩, ⟨[7], none, false, false⟩),
    (⟨(some 41), none, (.bin .sub (.t 38) (.t 40))⟩, ⟨[], none, false, false⟩),
    (⟨(some 42), none, (.fad 1 (.t 6))⟩, ⟨[6], none, false, false⟩),
    (⟨(some 43), none, (.ld false 1 (.t 42))⟩, ⟨[6], none, false, false⟩),
    (⟨(some 44), none, (.fad 1 (.t 7))⟩, ⟨[7], none, false, false⟩),
    (⟨(some 45), none, (.ld false 1 (.t 44))⟩, ⟨[7], none, false, false⟩),
    (⟨(some 46), none, (.bin .sub (.t 43) (.t 45))⟩, ⟨[], none, false, false⟩),
    (⟨(some 9), none, (.mv (.t 21))⟩, ⟨[], none, false, false⟩),
    (⟨(some 10), none, (.mv (.t 26))⟩, ⟨[], none, false, false⟩),
    (⟨(some 11), none, (.mv (.t 31))⟩, ⟨[], none, false, false⟩),
    (⟨(some 12), none, (.mv (.t 36))⟩, ⟨[], none, false, false⟩),
    (⟨(some 13), none, (.mv (.t 41))⟩, ⟨[], none, false, false⟩),
    (⟨(some 14), none, (.mv (.t 46))⟩, ⟨[], none, false, false⟩)])
  (.seq (.seq (.reg [] [⟨(some 47), none, (.mv (.t 9))⟩,
    ⟨(some 48), none, (.mv (.t 10))⟩,
    ⟨(some 49), none, (.mv (.t 11))⟩,
    ⟨(some 50), none, (.mv (.t 12))⟩,
    ⟨(some 51), none, (.mv (.t 13))⟩,
    ⟨(some 52), none, (.mv (.t 14))⟩,
    ⟨(some 53), none, (.bsl 6 1 [(.lit (.int .i64 0))] [(0, (1, (.t 47))), (1, (1, (.t 48))), (2, (1, (.t 49))), (3, (1, (.t 50))), (4, (1, (.t 51))), (5, (1, (.t 52)))])⟩,
    ⟨(some 54), none, (.call 130 [(.t 53)])⟩])
  (.cond (.t 54) (.seq (.reg [] [⟨(some 55), none, (.mv (.t 9))⟩,
    ⟨(some 56), none, (.mv (.t 10))⟩,
    ⟨(some 57), none, (.mv (.t 11))⟩,
    ⟨(some 58), none, (.mv (.t 12))⟩,
    ⟨(some 59), none, (.mv (.t 13))⟩,
    ⟨(some 60), none, (.mv (.t 14))⟩,
    ⟨(some 61), none, (.call 131 [(.t 55), (.t 56), (.t 57), (.t 58), (.t 59), (.t 60)])⟩,
    ⟨(some 8), none, (.mv (.t 61))⟩])
  .ret) .skip))
  (.seq (.reg [] [⟨(some 15), none, (.mv (.k (.fn 132 [])))⟩])
  (.seq (.reg [] [⟨(some 16), none, (.mv (.k (.fn 133 [])))⟩])
  (.seq (.reg [] [⟨(some 62), none, (.mv (.t 15))⟩,
    ⟨(some 63), none, (.mv (.t 9))⟩,
    ⟨(some 64), none, (.mv (.t 10))⟩,
    ⟨(some 65), none, (.callv (.t 62) [(.t 63), (.t 64)])⟩,
    ⟨(some 66), none, (.mv (.t 16))⟩,
    ⟨(some 67), none, (.mv (.t 11))⟩,
    ⟨(some 68), none, (.mv (.t 12))⟩,
    ⟨(some 69), none, (.mv (.t 13))⟩,
    ⟨(some 70), none, (.mv (.t 14))⟩,
    ⟨(some 71), none, (.callv (.t 66) [(.t 67), (.t 68), (.t 69), (.t 70)])⟩,
    ⟨(some 72), none, (.call 56 [(.t 65), (.t 71)])⟩,
    ⟨(some 73), none, (.mv (.t 15))⟩,
    ⟨(some 74), none, (.mv (.t 11))⟩,
    ⟨(some 75), none, (.mv (.t 12))⟩,
    ⟨(some 76), none, (.callv (.t 73) [(.t 74), (.t 75)])⟩,
    ⟨(some 77), none, (.mv (.t 16))⟩,
    ⟨(some 78), none, (.mv (.t 13))⟩,
    ⟨(some 79), none, (.mv (.t 14))⟩,
    ⟨(some 80), none, (.mv (.t 9))⟩,
    ⟨(some 81), none, (.mv (.t 10))⟩,
    ⟨(some 82), none, (.callv (.t 77) [(.t 78), (.t 79), (.t 80), (.t 81)])⟩,
    ⟨(some 83), none, (.call 56 [(.t 76), (.t 82)])⟩,
    ⟨(some 84), none, (.mv (.t 15))⟩,
    ⟨(some 85), none, (.mv (.t 13))⟩,
    ⟨(some 86), none, (.mv (.t 14))⟩,
    ⟨(some 87), none, (.callv (.t 84) [(.t 85), (.t 86)])⟩,
    ⟨(some 88), none, (.mv (.t 16))⟩,
    ⟨(some 89), none, (.mv (.t 9))⟩,
    ⟨(some 90), none, (.mv (.t 10))⟩,
    ⟨(some 91), none, (.mv (.t 11))⟩,
    ⟨(some 92), none, (.mv (.t 12))⟩,
    ⟨(some 93), none, (.callv (.t 88) [(.t 89), (.t 90), (.t 91), (.t 92)])⟩,
    ⟨(some 94), none, (.call 56 [(.t 87), (.t 93)])⟩,
    ⟨(some 95), none, (.bsl 3 2 [(.lit (.bool false)), (.lit (.slice none 0 0))] [(0, (2, (.t 72))), (2, (2, (.t 83))), (4, (2, (.t 94)))])⟩,
    ⟨(some 96), none, (.call 135 [(.t 95)])⟩,
    ⟨(some 97), none, (.call 66 [(.t 96)])⟩,
    ⟨(some 8), none, (.mv (.t 97))⟩])
  .ret)))))), [(.tmp 8)], [], true⟩
theorem fo91 : compF Tryz.prog 91 = some ⟨fe91.N, fe91.xc.er, fe91.rs⟩ := by kernel_rfl
theorem ox91 : okX fe91.xc = true := by kernel_rfl
theorem hb91 : hasBody Tryz.prog 91 = true := by kernel_rfl
theorem fk91 : FEOK Tryz.prog 91 fe91 := ⟨fo91, ox91, hb91⟩

/-- slices.pdqsortOrdered[int] -/
def fe92 : FE := ⟨134, (.seq (.reg [] [⟨(some 8), none, (.mv (.k (.lit (.bool true))))⟩])
  (.seq (.reg [] [⟨(some 9), none, (.mv (.k (.lit (.bool true))))⟩])
  (.block 0 (.loop (.block 1 (.seq (.reg [] [⟨(some 19), none, (.mv (.t 2))⟩,
    ⟨(some 20), none, (.mv (.t 1))⟩,
    ⟨(some 21), none, (.bin .sub (.t 19) (.t 20))⟩,
    ⟨(some 10), none, (.mv (.t 21))⟩])
  (.seq (.seq (.reg [] [⟨(some 22), none, (.mv (.t 10))⟩,
    ⟨(some 23), none, (.bin .leq (.t 22) (.k (.lit (.int .i64 12))))⟩])
  (.cond (.t 23) (.seq (.reg [] [⟨(some 24), none, (.mv (.t 0))⟩,
    ⟨(some 25), none, (.mv (.t 1))⟩,
    ⟨(some 26), none, (.mv (.t 2))⟩,
    ⟨(some 27), none, (.call 136 [(.t 24), (.t 25), (.t 26)])⟩])
  .ret) .skip))
  (.seq (.seq (.reg [] [⟨(some 28), none, (.mv (.t 3))⟩,
    ⟨(some 29), none, (.bin .eql (.t 28) (.k (.lit (.int .i64 0))))⟩])
  (.cond (.t 29) (.seq (.reg [] [⟨(some 30), none, (.mv (.t 0))⟩,
    ⟨(some 31), none, (.mv (.t 1))⟩,
    ⟨(some 32), none, (.mv (.t 2))⟩,
    ⟨(some 33), none, (.call 137 [(.t 30), (.t 31), (.t 32)])⟩])
  .ret) .skip))
  (.seq (.seq (.reg [] [⟨(some 34), none, (.mv (.t 8))⟩,
    ⟨(some 35), none, (.un .not (.t 34))⟩])
  (.cond (.t 35) (.seq (.reg [] [⟨(some 36), none, (.mv (.t 0))⟩,
    ⟨(some 37), none, (.mv (.t 1))⟩,
    ⟨(some 38), none, (.mv (.t 2))⟩,
    ⟨(some 39), none, (.call 138 [(.t 36), (.t 37), (.t 38)])⟩])
  (.reg [] [⟨(some 40), none, (.mv (.t 3))⟩,
    ⟨(some 41), none, (.bin .sub (.t 40) (.k (.lit (.int .i64 1))))⟩,
    ⟨(some 3), none, (.mv (.t 41))⟩])) .skip))
  (.seq (.reg [] [⟨(some 43), none, (.mv (.t 0))⟩,
    ⟨(some 44), none, (.mv (.t 1))⟩,
    ⟨(some 45), none, (.mv (.t 2))⟩,
    ⟨(some 46), none, (.call 139 [(.t 43), (.t 44), (.t 45)])⟩,
    ⟨(some 42), none, (.mv (.t 46))⟩,
    ⟨(some 47), none, (.ext (.t 42) 0)⟩,
    ⟨(some 48), none, (.ext (.t 42) 1)⟩,
    ⟨(some 11), none, (.mv (.t 47))⟩,
    ⟨(some 12), none, (.mv (.t 48))⟩])
  (.seq (.seq (.reg [] [⟨(some 49), none, (.mv (.t 12))⟩,
    ⟨(some 50), none, (.bin .eql (.t 49) (.k (.lit (.int .i64 2))))⟩])
  (.cond (.t 50) (.seq (.reg [] [⟨(some 51), none, (.mv (.t 0))⟩,
    ⟨(some 52), none, (.mv (.t 1))⟩,
    ⟨(some 53), none, (.mv (.t 2))⟩,
    ⟨(some 54), none, (.call 140 [(.t 51), (.t 52), (.t 53)])⟩])
  (.seq (.reg [] [⟨(some 55), none, (.mv (.t 2))⟩,
    ⟨(some 56), none, (.bin .sub (.t 55) (.k (.lit (.int .i64 1))))⟩,
    ⟨(some 57), none, (.mv (.t 11))⟩,
    ⟨(some 58), none, (.mv (.t 1))⟩,
    ⟨(some 59), none, (.bin .sub (.t 57) (.t 58))⟩,
    ⟨(some 60), none, (.bin .sub (.t 56) (.t 59))⟩,
    ⟨(some 11), none, (.mv (.t 60))⟩])
  (.reg [] [⟨(some 12), none, (.mv (.k (.lit (.int .i64 1))))⟩]))) .skip))
  (.seq (.seq (.reg [] [⟨(some 61), none, (.mv (.t 8))⟩,
    ⟨(some 62), none, (.mv (.t 61))⟩,
    ⟨(some 63), (some (62, true)), (.mv (.t 9))⟩,
    ⟨(some 64), none, (.pick (.t 62) (.t 63) (.k (.lit (.bool false))))⟩,
    ⟨(some 65), none, (.mv (.t 64))⟩,
    ⟨(some 66), (some (65, true)), (.mv (.t 12))⟩,
    ⟨(some 67), (some (65, true)), (.bin .eql (.t 66) (.k (.lit (.int .i64 1))))⟩,
    ⟨(some 68), none, (.pick (.t 65) (.t 67) (.k (.lit (.bool false))))⟩])
  (.cond (.t 68) (.seq (.reg [] [⟨(some 69), none, (.mv (.t 0))⟩,
    ⟨(some 70), none, (.mv (.t 1))⟩,
    ⟨(some 71), none, (.mv (.t 2))⟩,
    ⟨(some 72), none, (.call 141 [(.t 69), (.t 70), (.t 71)])⟩])
  (.cond (.t 72) .ret .skip)) .skip))
  (.seq (.seq (.regd [] [[], [0], [1], [2], [2], [4, 2], [3, 5, 2], [6, 2], [2], [2], [8, 9, 2], [10, 2], [7, 11, 2, 2], [12, 2], [2, 13]] [(⟨(some 73), none, (.mv (.t 1))⟩, ⟨[], none, false, false⟩),
    (⟨(some 74), none, (.bin .gtr (.t 73) (.k (.lit (.int .i64 0))))⟩, ⟨[], none, false, false⟩),
    (⟨(some 75), none, (.mv (.t 74))⟩, ⟨[], none, false, false⟩),
    (⟨(some 76), (some (75, true)), (.mv (.t 0))⟩, ⟨[], none, false, false⟩),
    (⟨(some 77), (some (75, true)), (.mv (.t 1))⟩, ⟨[], none, false, false⟩),
    (⟨(some 78), (some (75, true)), (.bin .sub (.t 77) (.k (.lit (.int .i64 1))))⟩, ⟨[], none, false, false⟩),
    (⟨(some 79), (some (75, true)), (.iad 1 (.t 76) (.t 78))⟩, ⟨[], none, false, false⟩),
    (⟨(some 80), (some (75, true)), (.ld false 1 (.t 79))⟩, ⟨[], none, true, false⟩),
    (⟨(some 81), (some (75, true)), (.mv (.t 0))⟩, ⟨[], none, false, false⟩),
    (⟨(some 82), (some (75, true)), (.mv (.t 11))⟩, ⟨[], none, false, false⟩),
    (⟨(some 83), (some (75, true)), (.iad 1 (.t 81) (.t 82))⟩, ⟨[], none, false, false⟩),
    (⟨(some 84), (some (75, true)), (.ld false 1 (.t 83))⟩, ⟨[], none, true, false⟩),
    (⟨(some 85), (some (75, true)), (.call 142 [(.t 80), (.t 84)])⟩, ⟨[], none, true, false⟩),
    (⟨(some 86), (some (75, true)), (.un .not (.t 85))⟩, ⟨[], none, false, false⟩),
    (⟨(some 87), none, (.pick (.t 75) (.t 86) (.k (.lit (.bool false))))⟩, ⟨[], none, false, false⟩)])
  (.cond (.t 87) (.seq (.reg [] [⟨(some 88), none, (.mv (.t 0))⟩,
    ⟨(some 89), none, (.mv (.t 1))⟩,
    ⟨(some 90), none, (.mv (.t 2))⟩,
    ⟨(some 91), none, (.mv (.t 11))⟩,
    ⟨(some 92), none, (.call 143 [(.t 88), (.t 89), (.t 90), (.t 91)])⟩,
    ⟨(some 13), none, (.mv (.t 92))⟩])
  (.seq (.reg [] [⟨(some 93), none, (.mv (.t 13))⟩,
    ⟨(some 1), none, (.mv (.t 93))⟩])
  (.exit 1))) .skip))
  (.seq (.reg [] [⟨(some 95), none, (.mv (.t 0))⟩,
    ⟨(some 96), none, (.mv (.t 1))⟩,
    ⟨(some 97), none, (.mv (.t 2))⟩,
    ⟨(some 98), none, (.mv (.t 11))⟩,
    ⟨(some 99), none, (.call 144 [(.t 95), (.t 96), (.t 97), (.t 98)])⟩,
    ⟨(some 94), none, (.mv (.t 99))⟩,
    ⟨(some 100), none, (.ext (.t 94) 0)⟩,
    ⟨(some 101), none, (.ext (.t 94) 1)⟩,
    ⟨(some 14), none, (.mv (.t 100))⟩,
    ⟨(some 15), none, (.mv (.t 101))⟩])
  (.seq (.reg [] [⟨(some 102), none, (.mv (.t 15))⟩,
    ⟨(some 9), none, (.mv (.t 102))⟩])
  (.seq (.reg [] [⟨(some 103), none, (.mv (.t 14))⟩,
    ⟨(some 104), none, (.mv (.t 1))⟩,
    ⟨(some 105), none, (.bin .sub (.t 103) (.t 104))⟩,
    ⟨(some 106), none, (.mv (.t 2))⟩,
    ⟨(some 107), none, (.mv (.t 14))⟩,
    ⟨(some 108), none, (.bin .sub (.t 106) (.t 107))⟩,
    ⟨(some 16), none, (.mv (.t 105))⟩,
    ⟨(some 17), none, (.mv (.t 108))⟩])
  (.seq (.reg [] [⟨(some 109), none, (.mv (.t 10))⟩,
    ⟨(some 110), none, (.bin .quo (.t 109) (.k (.lit (.int .i64 8))))⟩,
    ⟨(some 18), none, (.mv (.t 110))⟩])
  (.seq (.reg [] [⟨(some 111), none, (.mv (.t 16))⟩,
    ⟨(some 112), none, (.mv (.t 17))⟩,
    ⟨(some 113), none, (.bin .lss (.t 111) (.t 112))⟩])
  (.cond (.t 113) (.seq (.reg [] [⟨(some 114), none, (.mv (.t 16))⟩,
    ⟨(some 115), none, (.mv (.t 18))⟩,
    ⟨(some 116), none, (.bin .geq (.t 114) (.t 115))⟩,
    ⟨(some 8), none, (.mv (.t 116))⟩])
  (.seq (.reg [] [⟨(some 117), none, (.mv (.t 0))⟩,
    ⟨(some 118), none, (.mv (.t 1))⟩,
    ⟨(some 119), none, (.mv (.t 14))⟩,
    ⟨(some 120), none, (.mv (.t 3))⟩,
    ⟨(some 121), none, (.call 92 [(.t 117), (.t 118), (.t 119), (.t 120)])⟩])
  (.reg [] [⟨(some 122), none, (.mv (.t 14))⟩,
    ⟨(some 123), none, (.bin .add (.t 122) (.k (.lit (.int .i64 1))))⟩,
    ⟨(some 1), none, (.mv (.t 123))⟩]))) (.seq (.reg [] [⟨(some 124), none, (.mv (.t 17))⟩,
    ⟨(some 125), none, (.mv (.t 18))⟩,
    ⟨(some 126), none, (.bin .geq (.t 124) (.t 125))⟩,
    ⟨(some 8), none, (.mv (.t 126))⟩])
  (.seq (.reg [] [⟨(some 127), none, (.mv (.t 0))⟩,
    ⟨(some 128), none, (.mv (.t 14))⟩,
    ⟨(some 129), none, (.bin .add (.t 128) (.k (.lit (.int .i64 1))))⟩,
    ⟨(some 130), none, (.mv (.t 2))⟩,
    ⟨(some 131), none, (.mv (.t 3))⟩,
    ⟨(some 132), none, (.call 92 [(.t 127), (.t 129), (.t 130), (.t 131)])⟩])
  (.reg [] [⟨(some 133), none, (.mv (.t 14))⟩,
    ⟨(some 2), none, (.mv (.t 133))⟩])))))))))))))))))))))), [], [], false⟩
theorem fo92 : compF Tryz.prog 92 = some ⟨fe92.N, fe92.xc.er, fe92.rs⟩ := by kernel_rfl
theorem ox92 : okX fe92.xc = true := by kernel_rfl
theorem hb92 : hasBody Tryz.prog 92 = true := by kernel_rfl
theorem fk92 : FEOK Tryz.prog 92 fe92 := ⟨fo92, ox92, hb92⟩

/-- math/bits.Len -/
def fe93 : FE := ⟨8, (.seq (.reg [] [⟨(some 2), none, (.mv (.k (.lit (.int .i64 0))))⟩])
  (.seq (.cond (.k (.lit (.bool false))) (.seq (.reg [] [⟨(some 3), none, (.mv (.t 0))⟩,
    ⟨(some 4), none, (.cv .u32 (.t 3))⟩,
    ⟨(some 5), none, (.call 145 [(.t 4)])⟩,
    ⟨(some 2), none, (.mv (.t 5))⟩])
  .ret) .skip)
  (.seq (.reg [] [⟨(some 6), none, (.mv (.t 0))⟩,
    ⟨(some 7), none, (.call 146 [(.t 6)])⟩,
    ⟨(some 2), none, (.mv (.t 7))⟩])
  .ret))), [(.tmp 2)], [], true⟩
theorem fo93 : compF Tryz.prog 93 = some ⟨fe93.N, fe93.xc.er, fe93.rs⟩ := by kernel_rfl
theorem ox93 : okX fe93.xc = true := by kernel_rfl
theorem hb93 : hasBody Tryz.prog 93 = true := by kernel_rfl
theorem fk93 : FEOK Tryz.prog 93 fe93 := ⟨fo93, ox93, hb93⟩

/-- isohyet/wide.Num -/
def fe94 : FE := ⟨20, (.seq (.reg [1, 2] [⟨(some 1), none, (.box (.t 0))⟩,
    ⟨(some 2), none, (.new [(.lit (.bool false)), (.lit (.slice none 0 0))])⟩])
  (.seq (.seq (.reg [] [⟨(some 4), none, (.ld true 2 (.t 1))⟩,
    ⟨(some 5), none, (.call 147 [(.t 4)])⟩])
  (.cond (.t 5) (.seq (.reg [3] [⟨(some 6), none, (.ld true 2 (.t 1))⟩,
    ⟨(some 7), none, (.call 148 [(.t 6)])⟩,
    ⟨(some 3), none, (.new [(.lit (.int .u64 0)), (.lit (.int .u64 0))])⟩,
    ⟨none, none, (.st 2 (.t 3) (.t 7))⟩])
  (.seq (.reg [] [⟨(some 8), none, (.fad 1 (.t 3))⟩,
    ⟨(some 9), none, (.ld false 1 (.t 8))⟩,
    ⟨(some 10), none, (.fad 0 (.t 3))⟩,
    ⟨(some 11), none, (.ld false 1 (.t 10))⟩,
    ⟨(some 12), none, (.bsl 2 1 [(.lit (.int .u64 0))] [(0, (1, (.t 9))), (1, (1, (.t 11)))])⟩,
    ⟨(some 13), none, (.call 96 [(.k (.lit (.bool true))), (.t 12)])⟩,
    ⟨none, none, (.st 2 (.t 2) (.t 13))⟩])
  .ret)) .skip))
  (.seq (.reg [] [⟨(some 14), none, (.fad 1 (.t 1))⟩,
    ⟨(some 15), none, (.ld false 1 (.t 14))⟩,
    ⟨(some 16), none, (.fad 0 (.t 1))⟩,
    ⟨(some 17), none, (.ld false 1 (.t 16))⟩,
    ⟨(some 18), none, (.bsl 2 1 [(.lit (.int .u64 0))] [(0, (1, (.t 15))), (1, (1, (.t 17)))])⟩,
    ⟨(some 19), none, (.call 96 [(.k (.lit (.bool false))), (.t 18)])⟩,
    ⟨none, none, (.st 2 (.t 2) (.t 19))⟩])
  .ret))), [(.cell 2 true 2)], [], true⟩
theorem fo94 : compF Tryz.prog 94 = some ⟨fe94.N, fe94.xc.er, fe94.rs⟩ := by kernel_rfl
theorem ox94 : okX fe94.xc = true := by kernel_rfl
theorem hb94 : hasBody Tryz.prog 94 = true := by kernel_rfl
theorem fk94 : FEOK Tryz.prog 94 fe94 := ⟨fo94, ox94, hb94⟩

/-- isohyet/wide.Mul -/
def fe95 : FE := ⟨29, (.seq (.reg [4] [⟨(some 4), none, (.new [(.lit (.int .u64 0)), (.lit (.int .u64 0))])⟩])
  (.seq (.reg [] [⟨(some 9), none, (.mv (.t 0))⟩,
    ⟨(some 10), none, (.call 149 [(.t 9)])⟩,
    ⟨(some 11), none, (.mv (.t 1))⟩,
    ⟨(some 12), none, (.call 149 [(.t 11)])⟩,
    ⟨(some 13), none, (.call 104 [(.t 10), (.t 12)])⟩,
    ⟨(some 8), none, (.mv (.t 13))⟩,
    ⟨(some 14), none, (.ext (.t 8) 0)⟩,
    ⟨(some 15), none, (.ext (.t 8) 1)⟩,
    ⟨(some 5), none, (.mv (.t 14))⟩,
    ⟨(some 6), none, (.mv (.t 15))⟩])
  (.seq (.seq (.reg [7] [⟨(some 16), none, (.mv (.t 5))⟩,
    ⟨(some 17), none, (.mv (.t 6))⟩,
    ⟨(some 18), none, (.bld [(.lit (.int .u64 0)), (.lit (.int .u64 0))] [(0, (1, (.t 16))), (1, (1, (.t 17)))])⟩,
    ⟨(some 7), none, (.new [(.lit (.int .u64 0)), (.lit (.int .u64 0))])⟩,
    ⟨none, none, (.st 2 (.t 7) (.t 18))⟩])
  (.seq (.reg [] [⟨(some 19), none, (.mv (.t 0))⟩,
    ⟨(some 20), none, (.bin .lss (.t 19) (.k (.lit (.int .i64 0))))⟩,
    ⟨(some 21), none, (.mv (.t 1))⟩,
    ⟨(some 22), none, (.bin .lss (.t 21) (.k (.lit (.int .i64 0))))⟩,
    ⟨(some 23), none, (.eqb true (.t 20) (.t 22))⟩])
  (.cond (.t 23) (.seq (.reg [] [⟨(some 24), none, (.ld true 2 (.t 7))⟩,
    ⟨(some 25), none, (.call 148 [(.t 24)])⟩,
    ⟨none, none, (.st 2 (.t 4) (.t 25))⟩])
  .ret) .skip)))
  (.seq (.reg [] [⟨(some 26), none, (.mv (.t 5))⟩,
    ⟨(some 27), none, (.mv (.t 6))⟩,
    ⟨(some 28), none, (.bld [(.lit (.int .u64 0)), (.lit (.int .u64 0))] [(0, (1, (.t 26))), (1, (1, (.t 27)))])⟩,
    ⟨none, none, (.st 2 (.t 4) (.t 28))⟩])
  .ret)))), [(.cell 4 true 2)], [], true⟩
theorem fo95 : compF Tryz.prog 95 = some ⟨fe95.N, fe95.xc.er, fe95.rs⟩ := by kernel_rfl
theorem ox95 : okX fe95.xc = true := by kernel_rfl
theorem hb95 : hasBody Tryz.prog 95 = true := by kernel_rfl
theorem fk95 : FEOK Tryz.prog 95 fe95 := ⟨fo95, ox95, hb95⟩

/-- isohyet/num.Make -/
def fe96 : FE := ⟨15, (.seq (.reg [4] [⟨(some 4), none, (.new [(.lit (.bool false)), (.lit (.slice none 0 0))])⟩])
  (.seq (.reg [] [⟨(some 5), none, (.mv (.t 1))⟩,
    ⟨(some 6), none, (.call 101 [(.t 5), (.k (.lit (.slice none 0 0)))])⟩,
    ⟨(some 1), none, (.mv (.t 6))⟩])
  (.seq (.reg [] [⟨(some 7), none, (.mv (.t 0))⟩,
    ⟨(some 8), none, (.mv (.t 7))⟩,
    ⟨(some 9), (some (8, true)), (.mv (.t 1))⟩,
    ⟨(some 10), (some (8, true)), (.len (.t 9))⟩,
    ⟨(some 11), (some (8, true)), (.bin .gtr (.t 10) (.k (.lit (.int .i64 0))))⟩,
    ⟨(some 12), none, (.pick (.t 8) (.t 11) (.k (.lit (.bool false))))⟩,
    ⟨(some 13), none, (.mv (.t 1))⟩,
    ⟨(some 14), none, (.bld [(.lit (.bool false)), (.lit (.slice none 0 0))] [(0, (1, (.t 12))), (1, (1, (.t 13)))])⟩,
    ⟨none, none, (.st 2 (.t 4) (.t 14))⟩])
  .ret))), [(.cell 4 true 2)], [], true⟩
theorem fo96 : compF Tryz.prog 96 = some ⟨fe96.N, fe96.xc.er, fe96.rs⟩ := by kernel_rfl
theorem ox96 : okX fe96.xc = true := by kernel_rfl
theorem hb96 : hasBody Tryz.prog 96 = true := by kernel_rfl
theorem fk96 : FEOK Tryz.prog 96 fe96 := ⟨fo96, ox96, hb96⟩

/-- isohyet/pred.area2 -/
def fe97 : FE := ⟨28, (.seq (.reg [3, 4, 5, 6] [⟨(some 3), none, (.box (.t 0))⟩,
    ⟨(some 4), none, (.box (.t 1))⟩,
    ⟨(some 5), none, (.box (.t 2))⟩,
    ⟨(some 6), none, (.new [(.lit (.int .u64 0)), (.lit (.int .u64 0))])⟩])
  (.seq (.reg [] [⟨(some 7), none, (.fad 0 (.t 4))⟩,
    ⟨(some 8), none, (.ld false 1 (.t 7))⟩,
    ⟨(some 9), none, (.fad 0 (.t 3))⟩,
    ⟨(some 10), none, (.ld false 1 (.t 9))⟩,
    ⟨(some 11), none, (.bin .sub (.t 8) (.t 10))⟩,
    ⟨(some 12), none, (.fad 1 (.t 4))⟩,
    ⟨(some 13), none, (.ld false 1 (.t 12))⟩,
    ⟨(some 14), none, (.fad 1 (.t 3))⟩,
    ⟨(some 15), none, (.ld false 1 (.t 14))⟩,
    ⟨(some 16), none, (.bin .sub (.t 13) (.t 15))⟩,
    ⟨(some 17), none, (.fad 0 (.t 5))⟩,
    ⟨(some 18), none, (.ld false 1 (.t 17))⟩,
    ⟨(some 19), none, (.fad 0 (.t 3))⟩,
    ⟨(some 20), none, (.ld false 1 (.t 19))⟩,
    ⟨(some 21), none, (.bin .sub (.t 18) (.t 20))⟩,
    ⟨(some 22), none, (.fad 1 (.t 5))⟩,
    ⟨(some 23), none, (.ld false 1 (.t 22))⟩,
    ⟨(some 24), none, (.fad 1 (.t 3))⟩,
    ⟨(some 25), none, (.ld false 1 (.t 24))⟩,
    ⟨(some 26), none, (.bin .sub (.t 23) (.t 25))⟩,
    ⟨(some 27), none, (.call 134 [(.t 11), (.t 16), (.t 21), (.t 26)])⟩,
    ⟨none, none, (.st 2 (.t 6) (.t 27))⟩])
  .ret)), [(.cell 6 true 2)], [], true⟩
theorem fo97 : compF Tryz.prog 97 = some ⟨fe97.N, fe97.xc.er, fe97.rs⟩ := by kernel_rfl
theorem ox97 : okX fe97.xc = true := by kernel_rfl
theorem hb97 : hasBody Tryz.prog 97 = true := by kernel_rfl
theorem fk97 : FEOK Tryz.prog 97 fe97 := ⟨fo97, ox97, hb97⟩

/-- isohyet/num.Sub -/
def fe98 : FE := ⟨9, (.seq (.reg [2, 3, 4] [⟨(some 2), none, (.box (.t 0))⟩,
    ⟨(some 3), none, (.box (.t 1))⟩,
    ⟨(some 4), none, (.new [(.lit (.bool false)), (.lit (.slice none 0 0))])⟩])
  (.seq (.regd [] [[], [], [1], [0, 2, 2], [3, 3, 0, 1, 2, 3]] [(⟨(some 5), none, (.ld true 2 (.t 2))⟩, ⟨[2], none, false, false⟩),
    (⟨(some 6), none, (.ld true 2 (.t 3))⟩, ⟨[3], none, false, false⟩),
    (⟨(some 7), none, (.call 61 [(.t 6)])⟩, ⟨[], none, true, false⟩),
    (⟨(some 8), none, (.call 64 [(.t 5), (.t 7)])⟩, ⟨[], none, true, false⟩),
    (⟨none, none, (.st 2 (.t 4) (.t 8))⟩, ⟨[4], some 4, false, false⟩)])
  .ret)), [(.cell 4 true 2)], [], true⟩
theorem fo98 : compF Tryz.prog 98 = some ⟨fe98.N, fe98.xc.er, fe98.rs⟩ := by kernel_rfl
theorem ox98 : okX fe98.xc = true := by kernel_rfl
theorem hb98 : hasBody Tryz.prog 98 = true := by kernel_rfl
theorem fk98 : FEOK Tryz.prog 98 fe98 := ⟨fo98, ox98, hb98⟩

/-- isohyet/frac.lone -/
def fe99 : FE := ⟨12, (.seq (.reg [] [⟨(some 2), none, (.mv (.k (.lit (.bool false))))⟩])
  (.seq (.reg [] [⟨(some 3), none, (.mv (.t 0))⟩,
    ⟨(some 4), none, (.len (.t 3))⟩,
    ⟨(some 5), none, (.bin .eql (.t 4) (.k (.lit (.int .i64 1))))⟩,
    ⟨(some 6), none, (.mv (.t 5))⟩,
    ⟨(some 7), (some (6, true)), (.mv (.t 0))⟩,
    ⟨(some 8), (some (6, true)), (.iad 1 (.t 7) (.k (.lit (.int .i64 0))))⟩,
    ⟨(some 9), (some (6, true)), (.ld false 1 (.t 8))⟩,
    ⟨(some 10), (some (6, true)), (.bin .eql (.t 9) (.k (.lit (.int .u64 1))))⟩,
    ⟨(some 11), none, (.pick (.t 6) (.t 10) (.k (.lit (.bool false))))⟩,
    ⟨(some 2), none, (.mv (.t 11))⟩])
  .ret)), [(.tmp 2)], [], true⟩
theorem fo99 : compF Tryz.prog 99 = some ⟨fe99.N, fe99.xc.er, fe99.rs⟩ := by kernel_rfl
theorem ox99 : okX fe99.xc = true := by kernel_rfl
theorem hb99 : hasBody Tryz.prog 99 = true := by kernel_rfl
theorem fk99 : FEOK Tryz.prog 99 fe99 := ⟨fo99, ox99, hb99⟩

/-- isohyet/mag.Gcd -/
def fe100 : FE := ⟨65, (.seq (.reg [] [⟨(some 4), none, (.mv (.k (.lit (.slice none 0 0))))⟩])
  (.seq (.reg [] [⟨(some 9), none, (.mv (.t 0))⟩,
    ⟨(some 10), none, (.call 106 [(.t 9)])⟩,
    ⟨(some 11), none, (.mv (.t 1))⟩,
    ⟨(some 12), none, (.call 106 [(.t 11)])⟩,
    ⟨(some 0), none, (.mv (.t 10))⟩,
    ⟨(some 1), none, (.mv (.t 12))⟩])
  (.seq (.block 0 (.seq (.reg [] [⟨(some 14), none, (.mv (.t 0))⟩,
    ⟨(some 15), none, (.len (.t 14))⟩,
    ⟨(some 16), none, (.bin .eql (.t 15) (.k (.lit (.int .i64 0))))⟩,
    ⟨(some 13), none, (.mv (.t 16))⟩])
  (.cond (.t 13) (.seq (.reg [] [⟨(some 17), none, (.mv (.t 1))⟩,
    ⟨(some 18), none, (.app 1 8 (.k (.lit (.slice none 0 0))) (.t 17))⟩,
    ⟨(some 4), none, (.mv (.t 18))⟩])
  .ret) (.seq (.reg [] [⟨(some 20), none, (.mv (.t 1))⟩,
    ⟨(some 21), none, (.len (.t 20))⟩,
    ⟨(some 22), none, (.bin .eql (.t 21) (.k (.lit (.int .i64 0))))⟩,
    ⟨(some 19), none, (.mv (.t 22))⟩])
  (.cond (.t 19) (.seq (.reg [] [⟨(some 23), none, (.mv (.t 0))⟩,
    ⟨(some 24), none, (.app 1 8 (.k (.lit (.slice none 0 0))) (.t 23))⟩,
    ⟨(some 4), none, (.mv (.t 24))⟩])
  .ret) .skip)))))
  (.seq (.block 1 (.loop (.seq (.seq (.reg [] [⟨(some 25), none, (.mv (.t 1))⟩,
    ⟨(some 26), none, (.len (.t 25))⟩,
    ⟨(some 27), none, (.bin .gtr (.t 26) (.k (.lit (.int .i64 1))))⟩,
    ⟨(some 28), none, (.mv (.t 27))⟩,
    ⟨(some 29), (some (28, false)), (.mv (.t 1))⟩,
    ⟨(some 30), (some (28, false)), (.len (.t 29))⟩,
    ⟨(some 31), (some (28, false)), (.bin .eql (.t 30) (.k (.lit (.int .i64 1))))⟩,
    ⟨(some 32), (some (28, false)), (.mv (.t 31))⟩,
    ⟨(some 33), (some (32, true)), (.mv (.t 0))⟩,
    ⟨(some 34), (some (32, true)), (.len (.t 33))⟩,
    ⟨(some 35), (some (32, true)), (.bin .gtr (.t 34) (.k (.lit (.int .i64 1))))⟩,
    ⟨(some 36), (some (28, false)), (.pick (.t 32) (.t 35) (.k (.lit (.bool false))))⟩,
    ⟨(some 37), none, (.pick (.t 28) (.k (.lit (.bool true))) (.t 36))⟩])
  (.cond (.t 37) .skip (.exit 1)))
  (.block 2 (.seq (.reg [] [⟨(some 39), none, (.mv (.t 0))⟩,
    ⟨(some 40), none, (.mv (.t 1))⟩,
    ⟨(some 41), none, (.call 102 [(.t 39), (.t 40)])⟩,
    ⟨(some 38), none, (.mv (.t 41))⟩,
    ⟨(some 42), none, (.ext (.t 38) 0)⟩,
    ⟨(some 43), none, (.ext (.t 38) 1)⟩,
    ⟨(some 5), none, (.mv (.t 42))⟩,
    ⟨(some 6), none, (.mv (.t 43))⟩])
  (.reg [] [⟨(some 44), none, (.mv (.t 1))⟩,
    ⟨(some 45), none, (.mv (.t 6))⟩,
    ⟨(some 0), none, (.mv (.t 44))⟩,
    ⟨(some 1), none, (.mv (.t 45))⟩]))))))
  (.seq (.seq (.reg [] [⟨(some 46), none, (.mv (.t 1))⟩,
    ⟨(some 47), none, (.len (.t 46))⟩,
    ⟨(some 48), none, (.bin .eql (.t 47) (.k (.lit (.int .i64 0))))⟩])
  (.cond (.t 48) (.seq (.reg [] [⟨(some 49), none, (.mv (.t 0))⟩,
    ⟨(some 50), none, (.app 1 8 (.k (.lit (.slice none 0 0))) (.t 49))⟩,
    ⟨(some 4), none, (.mv (.t 50))⟩])
  .ret) .skip))
  (.seq (.regd [] [[], [0], [1], [], [3], [4], [2, 0, 1, 2], [5, 6, 0, 1, 2, 3, 4, 5, 6]] [(⟨(some 51), none, (.mv (.t 0))⟩, ⟨[], none, false, false⟩),
    (⟨(some 52), none, (.iad 1 (.t 51) (.k (.lit (.int .i64 0))))⟩, ⟨[], none, false, false⟩),
    (⟨(some 53), none, (.ld false 1 (.t 52))⟩, ⟨[], none, true, false⟩),
    (⟨(some 54), none, (.mv (.t 1))⟩, ⟨[], none, false, false⟩),
    (⟨(some 55), none, (.iad 1 (.t 54) (.k (.lit (.int .i64 0))))⟩, ⟨[], none, false, false⟩),
    (⟨(some 56), none, (.ld false 1 (.t 55))⟩, ⟨[], none, true, false⟩),
    (⟨(some 7), none, (.mv (.t 53))⟩, ⟨[], none, false, false⟩),
    (⟨(some 8), none, (.mv (.t 56))⟩, ⟨[], none, false, false⟩)])
  (.seq (.block 3 (.loop (.seq (.seq (.reg [] [⟨(some 57), none, (.mv (.t 8))⟩,
    ⟨(some 58), none, (.bin .gtr (.t 57) (.k (.lit (.int .u64 0))))⟩])
  (.cond (.t 58) .skip (.exit 3)))
  (.block 4 (.regd [] [[], [], [], [1, 2], [0, 0, 1], [3, 4, 0, 1, 2, 3, 4]] [(⟨(some 59), none, (.mv (.t 8))⟩, ⟨[], none, false, false⟩),
    (⟨(some 60), none, (.mv (.t 7))⟩, ⟨[], none, false, false⟩),
    (⟨(some 61), none, (.mv (.t 8))⟩, ⟨[], none, false, false⟩),
    (⟨(some 62), none, (.bin .rem (.t 60) (.t 61))⟩, ⟨[], none, false, false⟩),
    (⟨(some 7), none, (.mv (.t 59))⟩, ⟨[], none, false, false⟩),
    (⟨(some 8), none, (.mv (.t 62))⟩, ⟨[], none, false, false⟩)])))))
  (.seq (.reg [] [⟨(some 63), none, (.mv (.t 7))⟩,
    ⟨(some 64), none, (.call 82 [(.t 63)])⟩,
    ⟨(some 4), none, (.mv (.t 64))⟩])
  .ret)))))))), [(.tmp 4)], [], true⟩
theorem fo100 : compF Tryz.prog 100 = some ⟨fe100.N, fe100.xc.er, fe100.rs⟩ := by kernel_rfl
theorem ox100 : okX fe100.xc = true := by kernel_rfl
theorem hb100 : hasBody Tryz.prog 100 = true := by kernel_rfl
theorem fk100 : FEOK Tryz.prog 100 fe100 := ⟨fo100, ox100, hb100⟩

/-- isohyet/mag.Add -/
def fe101 : FE := ⟨54, (.seq (.reg [] [⟨(some 4), none, (.mv (.k (.lit (.slice none 0 0))))⟩])
  (.seq (.seq (.reg [] [⟨(some 10), none, (.mv (.t 0))⟩,
    ⟨(some 11), none, (.len (.t 10))⟩,
    ⟨(some 12), none, (.mv (.t 1))⟩,
    ⟨(some 13), none, (.len (.t 12))⟩,
    ⟨(some 14), none, (.bin .lss (.t 11) (.t 13))⟩])
  (.cond (.t 14) (.reg [] [⟨(some 15), none, (.mv (.t 1))⟩,
    ⟨(some 16), none, (.mv (.t 0))⟩,
    ⟨(some 0), none, (.mv (.t 15))⟩,
    ⟨(some 1), none, (.mv (.t 16))⟩]) .skip))
  (.seq (.reg [] [⟨(some 17), none, (.mv (.t 0))⟩,
    ⟨(some 18), none, (.len (.t 17))⟩,
    ⟨(some 19), none, (.bin .add (.t 18) (.k (.lit (.int .i64 1))))⟩,
    ⟨(some 20), none, (.mks 1 8 [(.lit (.int .u64 0))] (.t 19) (.t 19))⟩,
    ⟨(some 5), none, (.mv (.t 20))⟩])
  (.seq (.reg [] [⟨(some 6), none, (.mv (.k (.lit (.int .u64 0))))⟩])
  (.seq (.seq (.reg [] [⟨(some 21), none, (.mv (.t 0))⟩,
    ⟨(some 22), none, (.len (.t 21))⟩,
    ⟨(some 23), none, (.mv (.k (.lit (.int .i64 0))))⟩])
  (.block 0 (.loop (.seq (.reg [] [⟨(some 24), none, (.bin .lss (.t 23) (.t 22))⟩])
  (.seq (.cond (.t 24) .skip (.exit 0))
  (.seq (.block 1 (.seq (.reg [] [⟨(some 25), none, (.mv (.t 23))⟩,
    ⟨(some 26), none, (.iad 1 (.t 21) (.t 23))⟩,
    ⟨(some 27), none, (.ld false 1 (.t 26))⟩,
    ⟨(some 7), none, (.mv (.t 25))⟩,
    ⟨(some 8), none, (.mv (.t 27))⟩])
  (.seq (.reg [] [⟨(some 9), none, (.mv (.k (.lit (.int .u64 0))))⟩])
  (.seq (.seq (.reg [] [⟨(some 28), none, (.mv (.t 7))⟩,
    ⟨(some 29), none, (.mv (.t 1))⟩,
    ⟨(some 30), none, (.len (.t 29))⟩,
    ⟨(some 31), none, (.bin .lss (.t 28) (.t 30))⟩])
  (.cond (.t 31) (.reg [] [⟨(some 32), none, (.mv (.t 1))⟩,
    ⟨(some 33), none, (.mv (.t 7))⟩,
    ⟨(some 34), none, (.iad 1 (.t 32) (.t 33))⟩,
    ⟨(some 35), none, (.ld false 1 (.t 34))⟩,
    ⟨(some 9), none, (.mv (.t 35))⟩]) .skip))
  (.reg [] [⟨(some 37), none, (.mv (.t 5))⟩,
    ⟨(some 38), none, (.mv (.t 7))⟩,
    ⟨(some 39), none, (.mv (.t 8))⟩,
    ⟨(some 40), none, (.mv (.t 9))⟩,
    ⟨(some 41), none, (.mv (.t 6))⟩,
    ⟨(some 42), none, (.adc (.t 39) (.t 40) (.t 41))⟩,
    ⟨(some 36), none, (.mv (.t 42))⟩,
    ⟨(some 43), none, (.ext (.t 36) 0)⟩,
    ⟨(some 44), none, (.ext (.t 36) 1)⟩,
    ⟨(some 45), none, (.iad 1 (.t 37) (.t 38))⟩,
    ⟨none, none, (.st 1 (.t 45) (.t 43))⟩,
    ⟨(some 6), none, (.mv (.t 44))⟩])))))
  (.reg [] [⟨(some 46), none, (.bin .add (.t 23) (.k (.lit (.int .i64 1))))⟩,
    ⟨(some 23), none, (.mv (.t 46))⟩])))))))
  (.seq (.reg [] [⟨(some 47), none, (.mv (.t 5))⟩,
    ⟨(some 48), none, (.mv (.t 0))⟩,
    ⟨(some 49), none, (.len (.t 48))⟩,
    ⟨(some 50), none, (.mv (.t 6))⟩,
    ⟨(some 51), none, (.iad 1 (.t 47) (.t 49))⟩,
    ⟨none, none, (.st 1 (.t 51) (.t 50))⟩])
  (.seq (.reg [] [⟨(some 52), none, (.mv (.t 5))⟩,
    ⟨(some 53), none, (.call 106 [(.t 52)])⟩,
    ⟨(some 4), none, (.mv (.t 53))⟩])
  .ret))))))), [(.tmp 4)], [], true⟩
theorem fo101 : compF Tryz.prog 101 = some ⟨fe101.N, fe101.xc.er, fe101.rs⟩ := by kernel_rfl
theorem ox101 : okX fe101.xc = true := by kernel_rfl
theorem hb101 : hasBody Tryz.prog 101 = true := by kernel_rfl
theorem fk101 : FEOK Tryz.prog 101 fe101 := ⟨fo101, ox101, hb101⟩

/-- isohyet/mag.Div -/
def fe102 : FE := ⟨115, (.seq (.reg [] [⟨(some 4), none, (.mv (.k (.lit (.slice none 0 0))))⟩,
    ⟨(some 5), none, (.mv (.k (.lit (.slice none 0 0))))⟩])
  (.seq (.reg [] [⟨(some 15), none, (.mv (.t 0))⟩,
    ⟨(some 16), none, (.call 106 [(.t 15)])⟩,
    ⟨(some 17), none, (.mv (.t 1))⟩,
    ⟨(some 18), none, (.call 106 [(.t 17)])⟩,
    ⟨(some 0), none, (.mv (.t 16))⟩,
    ⟨(some 1), none, (.mv (.t 18))⟩])
  (.seq (.block 0 (.seq (.reg [] [⟨(some 20), none, (.mv (.t 1))⟩,
    ⟨(some 21), none, (.len (.t 20))⟩,
    ⟨(some 22), none, (.bin .eql (.t 21) (.k (.lit (.int .i64 0))))⟩,
    ⟨(some 23), none, (.mv (.t 22))⟩,
    ⟨(some 24), (some (23, false)), (.mv (.t 0))⟩,
    ⟨(some 25), (some (23, false)), (.mv (.t 1))⟩,
    ⟨(some 26), (some (23, false)), (.call 107 [(.t 24), (.t 25)])⟩,
    ⟨(some 27), (some (23, false)), (.bin .lss (.t 26) (.k (.lit (.int .i64 0))))⟩,
    ⟨(some 28), none, (.pick (.t 23) (.k (.lit (.bool true))) (.t 27))⟩,
    ⟨(some 19), none, (.mv (.t 28))⟩])
  (.cond (.t 19) (.seq (.reg [] [⟨(some 29), none, (.mv (.t 0))⟩,
    ⟨(some 30), none, (.app 1 8 (.k (.lit (.slice none 0 0))) (.t 29))⟩,
    ⟨(some 4), none, (.mv (.k (.lit (.slice none 0 0))))⟩,
    ⟨(some 5), none, (.mv (.t 30))⟩])
  .ret) (.seq (.reg [] [⟨(some 32), none, (.mv (.t 1))⟩,
    ⟨(some 33), none, (.len (.t 32))⟩,
    ⟨(some 34), none, (.bin .eql (.t 33) (.k (.lit (.int .i64 1))))⟩,
    ⟨(some 31), none, (.mv (.t 34))⟩])
  (.cond (.t 31) (.seq (.reg [] [⟨(some 36), none, (.mv (.t 0))⟩,
    ⟨(some 37), none, (.mv (.t 1))⟩,
    ⟨(some 38), none, (.iad 1 (.t 37) (.k (.lit (.int .i64 0))))⟩,
    ⟨(some 39), none, (.ld false 1 (.t 38))⟩,
    ⟨(some 40), none, (.call 150 [(.t 36), (.t 39)])⟩,
    ⟨(some 35), none, (.mv (.t 40))⟩,
    ⟨(some 41), none, (.ext (.t 35) 0)⟩,
    ⟨(some 42), none, (.ext (.t 35) 1)⟩,
    ⟨(some 6), none, (.mv (.t 41))⟩,
    ⟨(some 7), none, (.mv (.t 42))⟩])
  (.seq (.reg [] [⟨(some 43), none, (.mv (.t 6))⟩,
    ⟨(some 44), none, (.mv (.t 7))⟩,
    ⟨(some 45), none, (.call 82 [(.t 44)])⟩,
    ⟨(some 4), none, (.mv (.t 43))⟩,
    ⟨(some 5), none, (.mv (.t 45))⟩])
  .ret)) .skip)))))
  (.seq (.reg [] [⟨(some 46), none, (.mv (.t 1))⟩,
    ⟨(some 47), none, (.len (.t 46))⟩,
    ⟨(some 48), none, (.bin .mul (.k (.lit (.int .i64 64))) (.t 47))⟩,
    ⟨(some 49), none, (.mv (.t 1))⟩,
    ⟨(some 50), none, (.call 103 [(.t 49)])⟩,
    ⟨(some 51), none, (.bin .sub (.t 48) (.t 50))⟩,
    ⟨(some 8), none, (.mv (.t 51))⟩])
  (.seq (.reg [] [⟨(some 52), none, (.mv (.t 1))⟩,
    ⟨(some 53), none, (.mv (.t 8))⟩,
    ⟨(some 54), none, (.call 151 [(.t 52), (.t 53)])⟩,
    ⟨(some 9), none, (.mv (.t 54))⟩])
  (.seq (.reg [] [⟨(some 55), none, (.mv (.t 0))⟩,
    ⟨(some 56), none, (.len (.t 55))⟩,
    ⟨(some 57), none, (.bin .add (.t 56) (.k (.lit (.int .i64 1))))⟩,
    ⟨(some 58), none, (.mks 1 8 [(.lit (.int .u64 0))] (.t 57) (.t 57))⟩,
    ⟨(some 10), none, (.mv (.t 58))⟩])
  (.seq (.reg [] [⟨(some 59), none, (.mv (.t 10))⟩,
    ⟨(some 60), none, (.mv (.t 0))⟩,
    ⟨(some 61), none, (.mv (.t 8))⟩,
    ⟨(some 62), none, (.call 151 [(.t 60), (.t 61)])⟩,
    ⟨(some 63), none, (.cpy 1 (.t 59) (.t 62))⟩])
  (.seq (.reg [] [⟨(some 64), none, (.mv (.t 9))⟩,
    ⟨(some 65), none, (.len (.t 64))⟩,
    ⟨(some 11), none, (.mv (.t 65))⟩])
  (.seq (.reg [] [⟨(some 66), none, (.mv (.t 10))⟩,
    ⟨(some 67), none, (.len (.t 66))⟩,
    ⟨(some 68), none, (.mv (.t 11))⟩,
    ⟨(some 69), none, (.bin .sub (.t 67) (.t 68))⟩,
    ⟨(some 70), none, (.mks 1 8 [(.lit (.int .u64 0))] (.t 69) (.t 69))⟩,
    ⟨(some 12), none, (.mv (.t 70))⟩])
  (.seq (.seq (.reg [] [⟨(some 71), none, (.mv (.t 12))⟩,
    ⟨(some 72), none, (.len (.t 71))⟩,
    ⟨(some 73), none, (.bin .sub (.t 72) (.k (.lit (.int .i64 1))))⟩,
    ⟨(some 13), none, (.mv (.t 73))⟩])
  (.block 1 (.loop (.seq (.seq (.reg [] [⟨(some 74), none, (.mv (.t 13))⟩,
    ⟨(some 75), none, (.bin .geq (.t 74) (.k (.lit (.int .i64 0))))⟩])
  (.cond (.t 75) .skip (.exit 1)))
  (.seq (.block 2 (.seq (.reg [] [⟨(some 78), none, (.mv (.t 10))⟩,
    ⟨(some 79), none, (.mv (.t 13))⟩,
    ⟨(some 80), none, (.mv (.t 13))⟩,
    ⟨(some 81), none, (.mv (.t 11))⟩,
    ⟨(some 82), none, (.bin .add (.t 80) (.t 81))⟩,
    ⟨(some 83), none, (.bin .add (.t 82) (.k (.lit (.int .i64 1))))⟩,
    ⟨(some 84), none, (.sls 1 (.t 78) (some (.t 79)) (some (.t 83)))⟩,
    ⟨(some 14), none, (.mv (.t 84))⟩])
  (.seq (.reg [] [⟨(some 85), none, (.mv (.t 12))⟩,
    ⟨(some 86), none, (.mv (.t 13))⟩,
    ⟨(some 87), none, (.mv (.t 14))⟩,
    ⟨(some 88), none, (.mv (.t 9))⟩,
    ⟨(some 89), none, (.call 152 [(.t 87), (.t 88)])⟩,
    ⟨(some 90), none, (.iad 1 (.t 85) (.t 86))⟩,
    ⟨none, none, (.st 1 (.t 90) (.t 89))⟩])
  (.seq (.reg [] [⟨(some 91), none, (.mv (.t 14))⟩,
    ⟨(some 92), none, (.mv (.t 9))⟩,
    ⟨(some 93), none, (.mv (.t 12))⟩,
    ⟨(some 94), none, (.mv (.t 13))⟩,
    ⟨(some 95), none, (.iad 1 (.t 93) (.t 94))⟩,
    ⟨(some 96), none, (.ld false 1 (.t 95))⟩,
    ⟨(some 97), none, (.call 153 [(.t 91), (.t 92), (.t 96)])⟩])
  (.cond (.t 97) (.seq (.reg [] [⟨(some 98), none, (.mv (.t 12))⟩,
    ⟨(some 99), none, (.mv (.t 13))⟩,
    ⟨(some 100), none, (.iad 1 (.t 98) (.t 99))⟩,
    ⟨(some 101), none, (.ld false 1 (.t 100))⟩,
    ⟨(some 102), none, (.bin .sub (.t 101) (.k (.lit (.int .u64 1))))⟩,
    ⟨(some 103), none, (.iad 1 (.t 98) (.t 99))⟩,
    ⟨none, none, (.st 1 (.t 103) (.t 102))⟩])
  (.reg [] [⟨(some 104), none, (.mv (.t 14))⟩,
    ⟨(some 105), none, (.mv (.t 9))⟩,
    ⟨(some 106), none, (.call 154 [(.t 104), (.t 105)])⟩])) .skip)))))
  (.reg [] [⟨(some 76), none, (.mv (.t 13))⟩,
    ⟨(some 77), none, (.bin .sub (.t 76) (.k (.lit (.int .i64 1))))⟩,
    ⟨(some 13), none, (.mv (.t 77))⟩]))))))
  (.seq (.regd [] [[], [0], [], [], [2, 3], [4, 1], [], [5, 6, 5], [1, 7, 0, 1], [7, 8, 0, 1, 2, 3, 4, 5, 6, 7, 8]] [(⟨(some 107), none, (.mv (.t 12))⟩, ⟨[], none, false, false⟩),
    (⟨(some 108), none, (.call 106 [(.t 107)])⟩, ⟨[], none, true, false⟩),
    (⟨(some 109), none, (.mv (.t 10))⟩, ⟨[], none, false, false⟩),
    (⟨(some 110), none, (.mv (.t 11))⟩, ⟨[], none, false, false⟩),
    (⟨(some 111), none, (.sls 1 (.t 109) none (some (.t 110)))⟩, ⟨[], none, false, false⟩),
    (⟨(some 112), none, (.call 106 [(.t 111)])⟩, ⟨[], none, true, false⟩),
    (⟨(some 113), none, (.mv (.t 8))⟩, ⟨[], none, false, false⟩),
    (⟨(some 114), none, (.call 155 [(.t 112), (.t 113)])⟩, ⟨[], none, true, false⟩),
    (⟨(some 4), none, (.mv (.t 108))⟩, ⟨[], none, false, false⟩),
    (⟨(some 5), none, (.mv (.t 114))⟩, ⟨[], none, false, false⟩)])
  .ret))))))))))), [(.tmp 4), (.tmp 5)], [], true⟩
theorem fo102 : compF Tryz.prog 102 = some ⟨fe102.N, fe102.xc.er, fe102.rs⟩ := by kernel_rfl
theorem ox102 : okX fe102.xc = true := by kernel_rfl
theorem hb102 : hasBody Tryz.prog 102 = true := by kernel_rfl
theorem fk102 : FEOK Tryz.prog 102 fe102 := ⟨fo102, ox102, hb102⟩

/-- isohyet/mag.Len -/
def fe103 : FE := ⟨20, (.seq (.reg [] [⟨(some 2), none, (.mv (.k (.lit (.int .i64 0))))⟩])
  (.seq (.reg [] [⟨(some 3), none, (.mv (.t 0))⟩,
    ⟨(some 4), none, (.call 106 [(.t 3)])⟩,
    ⟨(some 0), none, (.mv (.t 4))⟩])
  (.seq (.seq (.reg [] [⟨(some 5), none, (.mv (.t 0))⟩,
    ⟨(some 6), none, (.len (.t 5))⟩,
    ⟨(some 7), none, (.bin .eql (.t 6) (.k (.lit (.int .i64 0))))⟩])
  (.cond (.t 7) (.seq (.reg [] [⟨(some 2), none, (.mv (.k (.lit (.int .i64 0))))⟩])
  .ret) .skip))
  (.seq (.reg [] [⟨(some 8), none, (.mv (.t 0))⟩,
    ⟨(some 9), none, (.len (.t 8))⟩,
    ⟨(some 10), none, (.bin .sub (.t 9) (.k (.lit (.int .i64 1))))⟩,
    ⟨(some 11), none, (.bin .mul (.k (.lit (.int .i64 64))) (.t 10))⟩,
    ⟨(some 12), none, (.mv (.t 0))⟩,
    ⟨(some 13), none, (.mv (.t 0))⟩,
    ⟨(some 14), none, (.len (.t 13))⟩,
    ⟨(some 15), none, (.bin .sub (.t 14) (.k (.lit (.int .i64 1))))⟩,
    ⟨(some 16), none, (.iad 1 (.t 12) (.t 15))⟩,
    ⟨(some 17), none, (.ld false 1 (.t 16))⟩,
    ⟨(some 18), none, (.call 146 [(.t 17)])⟩,
    ⟨(some 19), none, (.bin .add (.t 11) (.t 18))⟩,
    ⟨(some 2), none, (.mv (.t 19))⟩])
  .ret)))), [(.tmp 2)], [], true⟩
theorem fo103 : compF Tryz.prog 103 = some ⟨fe103.N, fe103.xc.er, fe103.rs⟩ := by kernel_rfl
theorem ox103 : okX fe103.xc = true := by kernel_rfl
theorem hb103 : hasBody Tryz.prog 103 = true := by kernel_rfl
theorem fk103 : FEOK Tryz.prog 103 fe103 := ⟨fo103, ox103, hb103⟩

/-- math/bits.Mul64 -/
def fe104 : FE := ⟨51, (.seq (.reg [] [⟨(some 4), none, (.mv (.k (.lit (.int .u64 0))))⟩,
    ⟨(some 5), none, (.mv (.k (.lit (.int .u64 0))))⟩])
  (.seq (.reg [] [⟨(some 14), none, (.mv (.t 0))⟩,
    ⟨(some 15), none, (.bin .and (.t 14) (.k (.lit (.int .u64 4294967295))))⟩,
    ⟨(some 6), none, (.mv (.t 15))⟩])
  (.seq (.reg [] [⟨(some 16), none, (.mv (.t 0))⟩,
    ⟨(some 17), none, (.bin .shr (.t 16) (.k (.lit (.int .u64 32))))⟩,
    ⟨(some 7), none, (.mv (.t 17))⟩])
  (.seq (.reg [] [⟨(some 18), none, (.mv (.t 1))⟩,
    ⟨(some 19), none, (.bin .and (.t 18) (.k (.lit (.int .u64 4294967295))))⟩,
    ⟨(some 8), none, (.mv (.t 19))⟩])
  (.seq (.reg [] [⟨(some 20), none, (.mv (.t 1))⟩,
    ⟨(some 21), none, (.bin .shr (.t 20) (.k (.lit (.int .u64 32))))⟩,
    ⟨(some 9), none, (.mv (.t 21))⟩])
  (.seq (.reg [] [⟨(some 22), none, (.mv (.t 6))⟩,
    ⟨(some 23), none, (.mv (.t 8))⟩,
    ⟨(some 24), none, (.bin .mul (.t 22) (.t 23))⟩,
    ⟨(some 10), none, (.mv (.t 24))⟩])
  (.seq (.reg [] [⟨(some 25), none, (.mv (.t 7))⟩,
    ⟨(some 26), none, (.mv (.t 8))⟩,
    ⟨(some 27), none, (.bin .mul (.t 25) (.t 26))⟩,
    ⟨(some 28), none, (.mv (.t 10))⟩,
    ⟨(some 29), none, (.bin .shr (.t 28) (.k (.lit (.int .u64 32))))⟩,
    ⟨(some 30), none, (.bin .add (.t 27) (.t 29))⟩,
    ⟨(some 11), none, (.mv (.t 30))⟩])
  (.seq (.reg [] [⟨(some 31), none, (.mv (.t 11))⟩,
    ⟨(some 32), none, (.bin .and (.t 31) (.k (.lit (.int .u64 4294967295))))⟩,
    ⟨(some 12), none, (.mv (.t 32))⟩])
  (.seq (.reg [] [⟨(some 33), none, (.mv (.t 11))⟩,
    ⟨(some 34), none, (.bin .shr (.t 33) (.k (.lit (.int .u64 32))))⟩,
    ⟨(some 13), none, (.mv (.t 34))⟩])
  (.seq (.reg [] [⟨(some 35), none, (.mv (.t 12))⟩,
    ⟨(some 36), none, (.mv (.t 6))⟩,
    ⟨(some 37), none, (.mv (.t 9))⟩,
    ⟨(some 38), none, (.bin .mul (.t 36) (.t 37))⟩,
    ⟨(some 39), none, (.bin .add (.t 35) (.t 38))⟩,
    ⟨(some 12), none, (.mv (.t 39))⟩])
  (.seq (.reg [] [⟨(some 40), none, (.mv (.t 7))⟩,
    ⟨(some 41), none, (.mv (.t 9))⟩,
    ⟨(some 42), none, (.bin .mul (.t 40) (.t 41))⟩,
    ⟨(some 43), none, (.mv (.t 13))⟩,
    ⟨(some 44), none, (.bin .add (.t 42) (.t 43))⟩,
    ⟨(some 45), none, (.mv (.t 12))⟩,
    ⟨(some 46), none, (.bin .shr (.t 45) (.k (.lit (.int .u64 32))))⟩,
    ⟨(some 47), none, (.bin .add (.t 44) (.t 46))⟩,
    ⟨(some 4), none, (.mv (.t 47))⟩])
  (.seq (.reg [] [⟨(some 48), none, (.mv (.t 0))⟩,
    ⟨(some 49), none, (.mv (.t 1))⟩,
    ⟨(some 50), none, (.bin .mul (.t 48) (.t 49))⟩,
    ⟨(some 5), none, (.mv (.t 50))⟩])
  .ret)))))))))))), [(.tmp 4), (.tmp 5)], [], true⟩
theorem fo104 : compF Tryz.prog 104 = some ⟨fe104.N, fe104.xc.er, fe104.rs⟩ := by kernel_rfl
theorem ox104 : okX fe104.xc = true := by kernel_rfl
theorem hb104 : hasBody Tryz.prog 104 = true := by kernel_rfl
theorem fk104 : FEOK Tryz.prog 104 fe104 := ⟨fo104, ox104, hb104⟩

/-- isohyet/mag.right -/
def fe106 : FE := ⟨21, (.seq (.reg [] [⟨(some 2), none, (.mv (.k (.lit (.slice none 0 0))))⟩])
  (.seq (.block 0 (.loop (.seq (.seq (.reg [] [⟨(some 3), none, (.mv (.t 0))⟩,
    ⟨(some 4), none, (.len (.t 3))⟩,
    ⟨(some 5), none, (.bin .gtr (.t 4) (.k (.lit (.int .i64 0))))⟩,
    ⟨(some 6), none, (.mv (.t 5))⟩,
    ⟨(some 7), (some (6, true)), (.mv (.t 0))⟩,
    ⟨(some 8), (some (6, true)), (.mv (.t 0))⟩,
    ⟨(some 9), (some (6, true)), (.len (.t 8))⟩,
    ⟨(some 10), (some (6, true)), (.bin .sub (.t 9) (.k (.lit (.int .i64 1))))⟩,
    ⟨(some 11), (some (6, true)), (.iad 1 (.t 7) (.t 10))⟩,
    ⟨(some 12), (some (6, true)), (.ld false 1 (.t 11))⟩,
    ⟨(some 13), (some (6, true)), (.bin .eql (.t 12) (.k (.lit (.int .u64 0))))⟩,
    ⟨(some 14), none, (.pick (.t 6) (.t 13) (.k (.lit (.bool false))))⟩])
  (.cond (.t 14) .skip (.exit 0)))
  (.block 1 (.reg [] [⟨(some 15), none, (.mv (.t 0))⟩,
    ⟨(some 16), none, (.mv (.t 0))⟩,
    ⟨(some 17), none, (.len (.t 16))⟩,
    ⟨(some 18), none, (.bin .sub (.t 17) (.k (.lit (.int .i64 1))))⟩,
    ⟨(some 19), none, (.sls 1 (.t 15) none (some (.t 18)))⟩,
    ⟨(some 0), none, (.mv (.t 19))⟩])))))
  (.seq (.reg [] [⟨(some 20), none, (.mv (.t 0))⟩,
    ⟨(some 2), none, (.mv (.t 20))⟩])
  .ret))), [(.tmp 2)], [], true⟩
theorem fo106 : compF Tryz.prog 106 = some ⟨fe106.N, fe106.xc.er, fe106.rs⟩ := by kernel_rfl
theorem ox106 : okX fe106.xc = true := by kernel_rfl
theorem hb106 : hasBody Tryz.prog 106 = true := by kernel_rfl
theorem fk106 : FEOK Tryz.prog 106 fe106 := ⟨fo106, ox106, hb106⟩

/-- isohyet/mag.Cmp -/
def fe107 : FE := ⟨45, (.seq (.reg [] [⟨(some 4), none, (.mv (.k (.lit (.int .i64 0))))⟩])
  (.seq (.reg [] [⟨(some 6), none, (.mv (.t 0))⟩,
    ⟨(some 7), none, (.call 106 [(.t 6)])⟩,
    ⟨(some 8), none, (.mv (.t 1))⟩,
    ⟨(some 9), none, (.call 106 [(.t 8)])⟩,
    ⟨(some 0), none, (.mv (.t 7))⟩,
    ⟨(some 1), none, (.mv (.t 9))⟩])
  (.seq (.seq (.reg [] [⟨(some 10), none, (.mv (.t 0))⟩,
    ⟨(some 11), none, (.len (.t 10))⟩,
    ⟨(some 12), none, (.mv (.t 1))⟩,
    ⟨(some 13), none, (.len (.t 12))⟩,
    ⟨(some 14), none, (.bin .neq (.t 11) (.t 13))⟩])
  (.cond (.t 14) (.seq (.seq (.reg [] [⟨(some 15), none, (.mv (.t 0))⟩,
    ⟨(some 16), none, (.len (.t 15))⟩,
    ⟨(some 17), none, (.mv (.t 1))⟩,
    ⟨(some 18), none, (.len (.t 17))⟩,
    ⟨(some 19), none, (.bin .lss (.t 16) (.t 18))⟩])
  (.cond (.t 19) (.seq (.reg [] [⟨(some 4), none, (.mv (.k (.lit (.int .i64 (-1)))))⟩])
  .ret) .skip))
  (.seq (.reg [] [⟨(some 4), none, (.mv (.k (.lit (.int .i64 1))))⟩])
  .ret)) .skip))
  (.seq (.seq (.reg [] [⟨(some 20), none, (.mv (.t 0))⟩,
    ⟨(some 21), none, (.len (.t 20))⟩,
    ⟨(some 22), none, (.bin .sub (.t 21) (.k (.lit (.int .i64 1))))⟩,
    ⟨(some 5), none, (.mv (.t 22))⟩])
  (.block 0 (.loop (.seq (.seq (.reg [] [⟨(some 23), none, (.mv (.t 5))⟩,
    ⟨(some 24), none, (.bin .geq (.t 23) (.k (.lit (.int .i64 0))))⟩])
  (.cond (.t 24) .skip (.exit 0)))
  (.seq (.block 1 (.seq (.regd [] [[], [], [0, 1], [2], [], [], [4, 5], [6], [3, 7]] [(⟨(some 27), none, (.mv (.t 0))⟩, ⟨[], none, false, false⟩),
    (⟨(some 28), none, (.mv (.t 5))⟩, ⟨[], none, false, false⟩),
    (⟨(some 29), none, (.iad 1 (.t 27) (.t 28))⟩, ⟨[], none, false, false⟩),
    (⟨(some 30), none, (.ld false 1 (.t 29))⟩, ⟨[], none, true, false⟩),
    (⟨(some 31), none, (.mv (.t 1))⟩, ⟨[], none, false, false⟩),
    (⟨(some 32), none, (.mv (.t 5))⟩, ⟨[], none, false, false⟩),
    (⟨(some 33), none, (.iad 1 (.t 31) (.t 32))⟩, ⟨[], none, false, false⟩),
    (⟨(some 34), none, (.ld false 1 (.t 33))⟩, ⟨[], none, true, false⟩),
    (⟨(some 35), none, (.bin .neq (.t 30) (.t 34))⟩, ⟨[], none, false, false⟩)])
  (.cond (.t 35) (.seq (.seq (.regd [] [[], [], [0, 1], [2], [], [], [4, 5], [6], [3, 7]] [(⟨(some 36), none, (.mv (.t 0))⟩, ⟨[], none, false, false⟩),
    (⟨(some 37), none, (.mv (.t 5))⟩, ⟨[], none, false, false⟩),
    (⟨(some 38), none, (.iad 1 (.t 36) (.t 37))⟩, ⟨[], none, false, false⟩),
    (⟨(some 39), none, (.ld false 1 (.t 38))⟩, ⟨[], none, true, false⟩),
    (⟨(some 40), none, (.mv (.t 1))⟩, ⟨[], none, false, false⟩),
    (⟨(some 41), none, (.mv (.t 5))⟩, ⟨[], none, false, false⟩),
    (⟨(some 42), none, (.iad 1 (.t 40) (.t 41))⟩, ⟨[], none, false, false⟩),
    (⟨(some 43), none, (.ld false 1 (.t 42))⟩, ⟨[], none, true, false⟩),
    (⟨(some 44), none, (.bin .lss (.t 39) (.t 43))⟩, ⟨[], none, false, false⟩)])
  (.cond (.t 44) (.seq (.reg [] [⟨(some 4), none, (.mv (.k (.lit (.int .i64 (-1)))))⟩])
  .ret) .skip))
  (.seq (.reg [] [⟨(some 4), none, (.mv (.k (.lit (.int .i64 1))))⟩])
  .ret)) .skip)))
  (.reg [] [⟨(some 25), none, (.mv (.t 5))⟩,
    ⟨(some 26), none, (.bin .sub (.t 25) (.k (.lit (.int .i64 1))))⟩,
    ⟨(some 5), none, (.mv (.t 26))⟩]))))))
  (.seq (.reg [] [⟨(some 4), none, (.mv (.k (.lit (.int .i64 0))))⟩])
  .ret))))), [(.tmp 4)], [], true⟩
theorem fo107 : compF Tryz.prog 107 = some ⟨fe107.N, fe107.xc.er, fe107.rs⟩ := by kernel_rfl
theorem ox107 : okX fe107.xc = true := by kernel_rfl
theorem hb107 : hasBody Tryz.prog 107 = true := by kernel_rfl
theorem fk107 : FEOK Tryz.prog 107 fe107 := ⟨fo107, ox107, hb107⟩

/-- isohyet/mag.Sub -/
def fe108 : FE := ⟨49, (.seq (.reg [] [⟨(some 4), none, (.mv (.k (.lit (.slice none 0 0))))⟩])
  (.seq (.reg [] [⟨(some 10), none, (.mv (.t 0))⟩,
    ⟨(some 11), none, (.call 106 [(.t 10)])⟩,
    ⟨(some 12), none, (.mv (.t 1))⟩,
    ⟨(some 13), none, (.call 106 [(.t 12)])⟩,
    ⟨(some 0), none, (.mv (.t 11))⟩,
    ⟨(some 1), none, (.mv (.t 13))⟩])
  (.seq (.seq (.reg [] [⟨(some 14), none, (.mv (.t 0))⟩,
    ⟨(some 15), none, (.mv (.t 1))⟩,
    ⟨(some 16), none, (.call 107 [(.t 14), (.t 15)])⟩,
    ⟨(some 17), none, (.bin .leq (.t 16) (.k (.lit (.int .i64 0))))⟩])
  (.cond (.t 17) (.seq (.reg [] [⟨(some 4), none, (.mv (.k (.lit (.slice none 0 0))))⟩])
  .ret) .skip))
  (.seq (.reg [] [⟨(some 18), none, (.mv (.t 0))⟩,
    ⟨(some 19), none, (.len (.t 18))⟩,
    ⟨(some 20), none, (.mks 1 8 [(.lit (.int .u64 0))] (.t 19) (.t 19))⟩,
    ⟨(some 5), none, (.mv (.t 20))⟩])
  (.seq (.reg [] [⟨(some 6), none, (.mv (.k (.lit (.int .u64 0))))⟩])
  (.seq (.seq (.reg [] [⟨(some 21), none, (.mv (.t 0))⟩,
    ⟨(some 22), none, (.len (.t 21))⟩,
    ⟨(some 23), none, (.mv (.k (.lit (.int .i64 0))))⟩])
  (.block 0 (.loop (.seq (.reg [] [⟨(some 24), none, (.bin .lss (.t 23) (.t 22))⟩])
  (.seq (.cond (.t 24) .skip (.exit 0))
  (.seq (.block 1 (.seq (.reg [] [⟨(some 25), none, (.mv (.t 23))⟩,
    ⟨(some 26), none, (.iad 1 (.t 21) (.t 23))⟩,
    ⟨(some 27), none, (.ld false 1 (.t 26))⟩,
    ⟨(some 7), none, (.mv (.t 25))⟩,
    ⟨(some 8), none, (.mv (.t 27))⟩])
  (.seq (.reg [] [⟨(some 9), none, (.mv (.k (.lit (.int .u64 0))))⟩])
  (.seq (.seq (.reg [] [⟨(some 28), none, (.mv (.t 7))⟩,
    ⟨(some 29), none, (.mv (.t 1))⟩,
    ⟨(some 30), none, (.len (.t 29))⟩,
    ⟨(some 31), none, (.bin .lss (.t 28) (.t 30))⟩])
  (.cond (.t 31) (.reg [] [⟨(some 32), none, (.mv (.t 1))⟩,
    ⟨(some 33), none, (.mv (.t 7))⟩,
    ⟨(some 34), none, (.iad 1 (.t 32) (.t 33))⟩,
    ⟨(some 35), none, (.ld false 1 (.t 34))⟩,
    ⟨(some 9), none, (.mv (.t 35))⟩]) .skip))
  (.reg [] [⟨(some 37), none, (.mv (.t 5))⟩,
    ⟨(some 38), none, (.mv (.t 7))⟩,
    ⟨(some 39), none, (.mv (.t 8))⟩,
    ⟨(some 40), none, (.mv (.t 9))⟩,
    ⟨(some 41), none, (.mv (.t 6))⟩,
    ⟨(some 42), none, (.sbb (.t 39) (.t 40) (.t 41))⟩,
    ⟨(some 36), none, (.mv (.t 42))⟩,
    ⟨(some 43), none, (.ext (.t 36) 0)⟩,
    ⟨(some 44), none, (.ext (.t 36) 1)⟩,
    ⟨(some 45), none, (.iad 1 (.t 37) (.t 38))⟩,
    ⟨none, none, (.st 1 (.t 45) (.t 43))⟩,
    ⟨(some 6), none, (.mv (.t 44))⟩])))))
  (.reg [] [⟨(some 46), none, (.bin .add (.t 23) (.k (.lit (.int .i64 1))))⟩,
    ⟨(some 23), none, (.mv (.t 46))⟩])))))))
  (.seq (.reg [] [⟨(some 47), none, (.mv (.t 5))⟩,
    ⟨(some 48), none, (.call 106 [(.t 47)])⟩,
    ⟨(some 4), none, (.mv (.t 48))⟩])
  .ret))))))), [(.tmp 4)], [], true⟩
theorem fo108 : compF Tryz.prog 108 = some ⟨fe108.N, fe108.xc.er, fe108.rs⟩ := by kernel_rfl
theorem ox108 : okX fe108.xc = true := by kernel_rfl
theorem hb108 : hasBody Tryz.prog 108 = true := by kernel_rfl
theorem fk108 : FEOK Tryz.prog 108 fe108 := ⟨fo108, ox108, hb108⟩

/-- (*isohyet/mesh.Mesh).Make -/
def fe113 : FE := ⟨83, (.seq (.reg [] [⟨(some 8), none, (.mv (.k (.lit (.int .i64 0))))⟩])
  (.seq (.reg [9] [⟨(some 14), none, (.mv (.t 1))⟩,
    ⟨(some 15), none, (.mv (.t 2))⟩,
    ⟨(some 16), none, (.mv (.t 3))⟩,
    ⟨(some 17), none, (.bld [(.lit (.int .i64 0)), (.lit (.int .i64 0)), (.lit (.int .i64 0))] [(0, (1, (.t 14))), (1, (1, (.t 15))), (2, (1, (.t 16)))])⟩,
    ⟨(some 18), none, (.bld [(.lit (.int .i64 0)), (.lit (.int .i64 0)), (.lit (.int .i64 0))] [(0, (1, (.k (.lit (.int .i64 (-1)))))), (1, (1, (.k (.lit (.int .i64 (-1)))))), (2, (1, (.k (.lit (.int .i64 (-1))))))])⟩,
    ⟨(some 19), none, (.bld [(.lit (.int .i64 0)), (.lit (.int .i64 0)), (.lit (.int .i64 0)), (.lit (.int .i64 0)), (.lit (.int .i64 0)), (.lit (.int .i64 0)), (.lit (.bool false)), (.lit (.bool false)), (.lit (.bool false))] [(0, (3, (.t 17))), (3, (3, (.t 18)))])⟩,
    ⟨(some 9), none, (.new [(.lit (.int .i64 0)), (.lit (.int .i64 0)), (.lit (.int .i64 0)), (.lit (.int .i64 0)), (.lit (.int .i64 0)), (.lit (.int .i64 0)), (.lit (.bool false)), (.lit (.bool false)), (.lit (.bool false))])⟩,
    ⟨none, none, (.st 9 (.t 9) (.t 19))⟩])
  (.seq (.reg [] [⟨(some 20), none, (.mv (.t 0))⟩,
    ⟨(some 21), none, (.nck (.t 20))⟩,
    ⟨(some 22), none, (.fad 1 (.t 21))⟩,
    ⟨(some 23), none, (.ld false 1 (.t 22))⟩,
    ⟨(some 24), none, (.len (.t 23))⟩,
    ⟨(some 10), none, (.mv (.t 24))⟩])
  (.seq (.seq (.reg [] [⟨(some 25), none, (.mv (.t 0))⟩,
    ⟨(some 26), none, (.nck (.t 25))⟩,
    ⟨(some 27), none, (.fad 2 (.t 26))⟩,
    ⟨(some 28), none, (.ld false 1 (.t 27))⟩,
    ⟨(some 29), none, (.len (.t 28))⟩,
    ⟨(some 11), none, (.mv (.t 29))⟩])
  (.seq (.reg [] [⟨(some 30), none, (.mv (.t 11))⟩,
    ⟨(some 31), none, (.bin .gtr (.t 30) (.k (.lit (.int .i64 0))))⟩])
  (.cond (.t 31) (.seq (.regd [] [[], [], [1], [2], [3], [], [5], [4, 6], [7], [], [9], [10], [11], [], [13], [12, 14], [8, 1, 2, 3, 4, 5, 6, 7, 8], [0, 0, 1, 2, 3, 4, 5, 6, 7, 8, 9, 10, 11, 12, 13, 14, 15, 16], [17, 0, 1, 2, 3, 4, 5, 6, 7, 8, 9, 10, 11, 12, 13, 14, 15, 16], [18, 15, 16, 0, 1, 2, 3, 4, 5, 6, 7, 8, 9, 10, 11, 12, 13, 14, 15, 16]] [(⟨(some 32), none, (.mv (.t 0))⟩, ⟨[], none, false, false⟩),
    (⟨(some 33), none, (.mv (.t 0))⟩, ⟨[], none, false, false⟩),
    (⟨(some 34), none, (.nck (.t 33))⟩, ⟨[], none, false, false⟩),
    (⟨(some 35), none, (.fad 2 (.t 34))⟩, ⟨[], none, false, false⟩),
    (⟨(some 36), none, (.ld false 1 (.t 35))⟩, ⟨[], none, true, false⟩),
    (⟨(some 37), none, (.mv (.t 11))⟩, ⟨[], none, false, false⟩),
    (⟨(some 38), none, (.bin .sub (.t 37) (.k (.lit (.int .i64 1))))⟩, ⟨[], none, false, false⟩),
    (⟨(some 39), none, (.iad 1 (.t 36) (.t 38))⟩, ⟨[], none, false, false⟩),
    (⟨(some 40), none, (.ld false 1 (.t 39))⟩, ⟨[], none, true, false⟩),
    (⟨(some 41), none, (.mv (.t 0))⟩, ⟨[], none, false, false⟩),
    (⟨(some 42), none, (.nck (.t 41))⟩, ⟨[], none, false, false⟩),
    (⟨(some 43), none, (.fad 2 (.t 42))⟩, ⟨[], none, false, false⟩),
    (⟨(some 44), none, (.ld false 1 (.t 43))⟩, ⟨[], none, true, false⟩),
    (⟨(some 45), none, (.mv (.t 11))⟩, ⟨[], none, false, false⟩),
    (⟨(some 46), none, (.bin .sub (.t 45) (.k (.lit (.int .i64 1))))⟩, ⟨[], none, false, false⟩),
    (⟨(some 47), none, (.sls 1 (.t 44) none (some (.t 46)))⟩, ⟨[], none, false, false⟩),
    (⟨(some 10), none, (.mv (.t 40))⟩, ⟨[], none, false, false⟩),
    (⟨(some 48), none, (.nck (.t 32))⟩, ⟨[], none, false, false⟩),
    (⟨(some 49), none, (.fad 2 (.t 48))⟩, ⟨[], none, false, false⟩),
    (⟨none, none, (.st 1 (.t 49) (.t 47))⟩, ⟨[], none, true, true⟩)])
  (.regd [] [[], [0], [1], [2], [], [], [3, 4, 0, 1, 2, 3, 4, 5], [6, 5, 0, 1, 2, 3, 4, 5]] [(⟨(some 50), none, (.mv (.t 0))⟩, ⟨[], none, false, false⟩),
    (⟨(some 51), none, (.nck (.t 50))⟩, ⟨[], none, false, false⟩),
    (⟨(some 52), none, (.fad 1 (.t 51))⟩, ⟨[], none, false, false⟩),
    (⟨(some 53), none, (.ld false 1 (.t 52))⟩, ⟨[], none, true, false⟩),
    (⟨(some 54), none, (.mv (.t 10))⟩, ⟨[], none, false, false⟩),
    (⟨(some 55), none, (.ld true 9 (.t 9))⟩, ⟨[9], none, false, false⟩),
    (⟨(some 56), none, (.iad 9 (.t 53) (.t 54))⟩, ⟨[], none, false, false⟩),
    (⟨none, none, (.st 9 (.t 56) (.t 55))⟩, ⟨[], none, true, true⟩)])) (.regd [] [[], [], [1], [2], [3], [], [5], [4, 6], [0, 0, 1, 2, 3, 4, 5, 6, 7], [8, 0, 1, 2, 3, 4, 5, 6, 7], [9, 7, 7, 0, 1, 2, 3, 4, 5, 6, 7]] [(⟨(some 57), none, (.mv (.t 0))⟩, ⟨[], none, false, false⟩),
    (⟨(some 58), none, (.mv (.t 0))⟩, ⟨[], none, false, false⟩),
    (⟨(some 59), none, (.nck (.t 58))⟩, ⟨[], none, false, false⟩),
    (⟨(some 60), none, (.fad 1 (.t 59))⟩, ⟨[], none, false, false⟩),
    (⟨(some 61), none, (.ld false 1 (.t 60))⟩, ⟨[], none, true, false⟩),
    (⟨(some 62), none, (.ld true 9 (.t 9))⟩, ⟨[9], none, false, false⟩),
    (⟨(some 63), none, (.bsl 1 9 [(.lit (.int .i64 0)), (.lit (.int .i64 0)), (.lit (.int .i64 0)), (.lit (.int .i64 0)), (.lit (.int .i64 0)), (.lit (.int .i64 0)), (.lit (.bool false)), (.lit (.bool false)), (.lit (.bool false))] [(0, (9, (.t 62)))])⟩, ⟨[], none, false, false⟩),
    (⟨(some 64), none, (.app 9 56 (.t 61) (.t 63))⟩, ⟨[], none, true, true⟩),
    (⟨(some 65), none, (.nck (.t 57))⟩, ⟨[], none, false, false⟩),
    (⟨(some 66), none, (.fad 1 (.t 65))⟩, ⟨[], none, false, false⟩),
    (⟨none, none, (.st 1 (.t 66) (.t 64))⟩, ⟨[], none, true, true⟩)]))))
  (.seq (.seq (.reg [] [⟨(some 67), none, (.fad 0 (.t 9))⟩,
    ⟨(some 68), none, (.ld true 3 (.t 67))⟩,
    ⟨(some 69), none, (.mv (.k (.lit (.int .i64 0))))⟩])
  (.block 0 (.loop (.seq (.reg [] [⟨(some 70), none, (.bin .lss (.t 69) (.k (.lit (.int .i64 3))))⟩])
  (.seq (.cond (.t 70) .skip (.exit 0))
  (.seq (.block 1 (.seq (.reg [] [⟨(some 71), none, (.ixa 3 1 false (.t 68) (.t 69))⟩,
    ⟨(some 13), none, (.mv (.t 71))⟩])
  (.seq (.reg [] [⟨(some 72), none, (.mv (.t 13))⟩,
    ⟨(some 73), none, (.bin .geq (.t 72) (.k (.lit (.int .i64 0))))⟩])
  (.cond (.t 73) (.reg [] [⟨(some 74), none, (.mv (.t 0))⟩,
    ⟨(some 75), none, (.nck (.t 74))⟩,
    ⟨(some 76), none, (.fad 3 (.t 75))⟩,
    ⟨(some 77), none, (.ld false 1 (.t 76))⟩,
    ⟨(some 78), none, (.mv (.t 13))⟩,
    ⟨(some 79), none, (.mv (.t 10))⟩,
    ⟨(some 80), none, (.iad 1 (.t 77) (.t 78))⟩,
    ⟨none, none, (.st 1 (.t 80) (.t 79))⟩]) .skip))))
  (.reg [] [⟨(some 81), none, (.bin .add (.t 69) (.k (.lit (.int .i64 1))))⟩,
    ⟨(some 69), none, (.mv (.t 81))⟩])))))))
  (.seq (.reg [] [⟨(some 82), none, (.mv (.t 10))⟩,
    ⟨(some 8), none, (.mv (.t 82))⟩])
  .ret)))))), [(.tmp 8)], [], false⟩
theorem fo113 : compF Tryz.prog 113 = some ⟨fe113.N, fe113.xc.er, fe113.rs⟩ := by kernel_rfl
theorem ox113 : okX fe113.xc = true := by kernel_rfl
theorem hb113 : hasBody Tryz.prog 113 = true := by kernel_rfl
theorem fk113 : FEOK Tryz.prog 113 fe113 := ⟨fo113, ox113, hb113⟩

/-- (*isohyet/mesh.Mesh).Link -/
def fe114 : FE := ⟨52, (.seq (.regd [] [[], [0], [1], [2], [], [], [], [6], [7], [8], [], [], [], [], [3, 4], [14], [15, 5, 0, 1, 2, 3, 4, 5, 9, 12], [16, 12, 0, 1, 2, 3, 4, 5, 9, 12], [9, 10], [18], [19, 11, 0, 1, 2, 3, 4, 5, 6, 7, 8, 9, 10, 11, 12, 13, 14, 15, 16, 17], [20, 13, 17, 0, 1, 2, 3, 4, 5, 6, 7, 8, 9, 10, 11, 12, 13, 14, 15, 16, 17]] [(⟨(some 12), none, (.mv (.t 0))⟩, ⟨[], none, false, false⟩),
    (⟨(some 13), none, (.nck (.t 12))⟩, ⟨[], none, false, false⟩),
    (⟨(some 14), none, (.fad 1 (.t 13))⟩, ⟨[], none, false, false⟩),
    (⟨(some 15), none, (.ld false 1 (.t 14))⟩, ⟨[], none, true, false⟩),
    (⟨(some 16), none, (.mv (.t 1))⟩, ⟨[], none, false, false⟩),
    (⟨(some 17), none, (.mv (.t 2))⟩, ⟨[], none, false, false⟩),
    (⟨(some 18), none, (.mv (.t 0))⟩, ⟨[], none, false, false⟩),
    (⟨(some 19), none, (.nck (.t 18))⟩, ⟨[], none, false, false⟩),
    (⟨(some 20), none, (.fad 1 (.t 19))⟩, ⟨[], none, false, false⟩),
    (⟨(some 21), none, (.ld false 1 (.t 20))⟩, ⟨[], none, true, false⟩),
    (⟨(some 22), none, (.mv (.t 3))⟩, ⟨[], none, false, false⟩),
    (⟨(some 23), none, (.mv (.t 4))⟩, ⟨[], none, false, false⟩),
    (⟨(some 24), none, (.mv (.t 3))⟩, ⟨[], none, false, false⟩),
    (⟨(some 25), none, (.mv (.t 1))⟩, ⟨[], none, false, false⟩),
    (⟨(some 26), none, (.iad 9 (.t 15) (.t 16))⟩, ⟨[], none, false, false⟩),
    (⟨(some 27), none, (.fad 3 (.t 26))⟩, ⟨[], none, false, false⟩),
    (⟨(some 28), none, (.iaa 3 1 (.t 27) (.t 17))⟩, ⟨[], none, false, false⟩),
    (⟨none, none, (.st 1 (.t 28) (.t 24))⟩, ⟨[], none, true, true⟩),
    (⟨(some 29), none, (.iad 9 (.t 21) (.t 22))⟩, ⟨[], none, false, false⟩),
    (⟨(some 30), none, (.fad 3 (.t 29))⟩, ⟨[], none, false, false⟩),
    (⟨(some 31), none, (.iaa 3 1 (.t 30) (.t 23))⟩, ⟨[], none, false, false⟩),
    (⟨none, none, (.st 1 (.t 31) (.t 25))⟩, ⟨[], none, true, true⟩)])
  (.regd [] [[], [0], [1], [2], [], [], [], [6], [7], [8], [], [], [], [], [3, 4], [14], [15, 5, 0, 1, 2, 3, 4, 5, 9, 12], [16, 12, 0, 1, 2, 3, 4, 5, 9, 12], [9, 10], [18], [19, 11, 0, 1, 2, 3, 4, 5, 6, 7, 8, 9, 10, 11, 12, 13, 14, 15, 16, 17], [20, 13, 17, 0, 1, 2, 3, 4, 5, 6, 7, 8, 9, 10, 11, 12, 13, 14, 15, 16, 17]] [(⟨(some 32), none, (.mv (.t 0))⟩, ⟨[], none, false, false⟩),
    (⟨(some 33), none, (.nck (.t 32))⟩, ⟨[], none, false, false⟩),
    (⟨(some 34), none, (.fad 1 (.t 33))⟩, ⟨[], none, false, false⟩),
    (⟨(some 35), none, (.ld false 1 (.t 34))⟩, ⟨[], none, true, false⟩),
    (⟨(some 36), none, (.mv (.t 1))⟩, ⟨[], none, false, false⟩),
    (⟨(some 37), none, (.mv (.t 2))⟩, ⟨[], none, false, false⟩),
    (⟨(some 38), none, (.mv (.t 0))⟩, ⟨[], none, false, false⟩),
    (⟨(some 39), none, (.nck (.t 38))⟩, ⟨[], none, false, false⟩),
    (⟨(some 40), none, (.fad 1 (.t 39))⟩, ⟨[], none, false, false⟩),
    (⟨(some 41), none, (.ld false 1 (.t 40))⟩, ⟨[], none, true, false⟩),
    (⟨(some 42), none, (.mv (.t 3))⟩, ⟨[], none, false, false⟩),
    (⟨(some 43), none, (.mv (.t 4))⟩, ⟨[], none, false, false⟩),
    (⟨(some 44), none, (.mv (.t 5))⟩, ⟨[], none, false, false⟩),
    (⟨(some 45), none, (.mv (.t 5))⟩, ⟨[], none, false, false⟩),
    (⟨(some 46), none, (.iad 9 (.t 35) (.t 36))⟩, ⟨[], none, false, false⟩),
    (⟨(some 47), none, (.fad 6 (.t 46))⟩, ⟨[], none, false, false⟩),
    (⟨(some 48), none, (.iaa 3 1 (.t 47) (.t 37))⟩, ⟨[], none, false, false⟩),
    (⟨none, none, (.st 1 (.t 48) (.t 44))⟩, ⟨[], none, true, true⟩),
    (⟨(some 49), none, (.iad 9 (.t 41) (.t 42))⟩, ⟨[], none, false, false⟩),
    (⟨(some 50), none, (.fad 6 (.t 49))⟩, ⟨[], none, false, false⟩),
    (⟨(some 51), none, (.iaa 3 1 (.t 50) (.t 43))⟩, ⟨[], none, false, false⟩),
    (⟨none, none, (.st 1 (.t 51) (.t 45))⟩, ⟨[], none, true, true⟩)])), [], [], false⟩
theorem fo114 : compF Tryz.prog 114 = some ⟨fe114.N, fe114.xc.er, fe114.rs⟩ := by kernel_rfl
theorem ox114 : okX fe114.xc = true := by kernel_rfl
theorem hb114 : hasBody Tryz.prog 114 = true := by kernel_rfl
theorem fk114 : FEOK Tryz.prog 114 fe114 := ⟨fo114, ox114, hb114⟩

/-- isohyet/walk.Find -/
def fe115 : FE := ⟨68, (.seq (.reg [5, 8] [⟨(some 5), none, (.box (.t 1))⟩,
    ⟨(some 8), none, (.new [(.lit (.int .i64 0)), (.lit (.int .i64 0)), (.lit (.int .i64 0)), (.lit (.int .i64 0))])⟩,
    ⟨(some 9), none, (.mv (.k (.lit (.int .i64 0))))⟩])
  (.scope (.seq (.reg [] [⟨(some 15), none, (.mv (.t 2))⟩,
    ⟨(some 10), none, (.mv (.t 15))⟩])
  (.seq (.seq (.reg [] [⟨(some 16), none, (.mv (.t 0))⟩,
    ⟨(some 17), none, (.mv (.t 10))⟩,
    ⟨(some 18), none, (.call 50 [(.t 16), (.t 17)])⟩,
    ⟨(some 19), none, (.un .not (.t 18))⟩])
  (.cond (.t 19) (.reg [] [⟨(some 20), none, (.mv (.t 0))⟩,
    ⟨(some 21), none, (.call 159 [(.t 20)])⟩,
    ⟨(some 10), none, (.mv (.t 21))⟩]) .skip))
  (.seq (.reg [] [⟨(some 11), none, (.mv (.k (.lit (.int .i64 0))))⟩])
  (.seq .lab
  (.seq (.block 0 (.loop (.seq (.seq (.reg [] [⟨(some 22), none, (.mv (.t 10))⟩,
    ⟨(some 23), none, (.bin .geq (.t 22) (.k (.lit (.int .i64 0))))⟩,
    ⟨(some 24), none, (.mv (.t 23))⟩,
    ⟨(some 25), (some (24, true)), (.mv (.t 11))⟩,
    ⟨(some 26), (some (24, true)), (.mv (.t 3))⟩,
    ⟨(some 27), (some (24, true)), (.bin .lss (.t 25) (.t 26))⟩,
    ⟨(some 28), none, (.pick (.t 24) (.t 27) (.k (.lit (.bool false))))⟩])
  (.cond (.t 28) .skip (.exit 0)))
  (.block 1 (.seq (.reg [] [⟨(some 29), none, (.mv (.t 11))⟩,
    ⟨(some 30), none, (.bin .add (.t 29) (.k (.lit (.int .i64 1))))⟩,
    ⟨(some 11), none, (.mv (.t 30))⟩])
  (.seq (.reg [12] [⟨(some 31), none, (.mv (.t 0))⟩,
    ⟨(some 32), none, (.nck (.t 31))⟩,
    ⟨(some 33), none, (.fad 1 (.t 32))⟩,
    ⟨(some 34), none, (.ld false 1 (.t 33))⟩,
    ⟨(some 35), none, (.mv (.t 10))⟩,
    ⟨(some 36), none, (.iad 9 (.t 34) (.t 35))⟩,
    ⟨(some 37), none, (.ld true 9 (.t 36))⟩,
    ⟨(some 12), none, (.new [(.lit (.int .i64 0)), (.lit (.int .i64 0)), (.lit (.int .i64 0)), (.lit (.int .i64 0)), (.lit (.int .i64 0)), (.lit (.int .i64 0)), (.lit (.bool false)), (.lit (.bool false)), (.lit (.bool false))])⟩,
    ⟨none, none, (.st 9 (.t 12) (.t 37))⟩])
  (.seq (.seq (.reg [] [⟨(some 38), none, (.fad 3 (.t 12))⟩,
    ⟨(some 39), none, (.ld true 3 (.t 38))⟩,
    ⟨(some 40), none, (.mv (.k (.lit (.int .i64 0))))⟩])
  (.block 2 (.loop (.seq (.reg [] [⟨(some 41), none, (.bin .lss (.t 40) (.k (.lit (.int .i64 3))))⟩])
  (.seq (.cond (.t 41) .skip (.exit 2))
  (.seq (.block 3 (.seq (.reg [] [⟨(some 42), none, (.mv (.t 40))⟩,
    ⟨(some 43), none, (.ixa 3 1 false (.t 39) (.t 40))⟩,
    ⟨(some 13), none, (.mv (.t 42))⟩,
    ⟨(some 14), none, (.mv (.t 43))⟩])
  (.seq (.seq (.reg [] [⟨(some 44), none, (.mv (.t 0))⟩,
    ⟨(some 45), none, (.ld true 9 (.t 12))⟩,
    ⟨(some 46), none, (.mv (.t 13))⟩,
    ⟨(some 47), none, (.ld true 2 (.t 5))⟩,
    ⟨(some 48), none, (.call 78 [(.t 44), (.t 45), (.t 46), (.t 47)])⟩,
    ⟨(some 49), none, (.un .not (.t 48))⟩])
  (.cond (.t 49) (.exit 3) .skip))
  (.seq (.seq (.reg [] [⟨(some 50), none, (.mv (.t 0))⟩,
    ⟨(some 51), none, (.mv (.t 14))⟩,
    ⟨(some 52), none, (.call 50 [(.t 50), (.t 51)])⟩,
    ⟨(some 53), none, (.un .not (.t 52))⟩])
  (.cond (.t 53) (.seq (.reg [] [⟨(some 54), none, (.mv (.t 14))⟩,
    ⟨(some 55), none, (.bld [(.lit (.int .i64 0)), (.lit (.int .i64 0)), (.lit (.int .i64 0)), (.lit (.int .i64 0))] [(0, (1, (.k (.lit (.int .i64 3))))), (1, (1, (.t 54)))])⟩,
    ⟨(some 56), none, (.mv (.t 11))⟩,
    ⟨none, none, (.st 4 (.t 8) (.t 55))⟩,
    ⟨(some 9), none, (.mv (.t 56))⟩])
  .ret) .skip))
  (.seq (.reg [] [⟨(some 57), none, (.mv (.t 14))⟩,
    ⟨(some 10), none, (.mv (.t 57))⟩])
  (.exit 1))))))
  (.reg [] [⟨(some 58), none, (.bin .add (.t 40) (.k (.lit (.int .i64 1))))⟩,
    ⟨(some 40), none, (.mv (.t 58))⟩])))))))
  (.seq (.reg [] [⟨(some 59), none, (.mv (.t 0))⟩,
    ⟨(some 60), none, (.mv (.t 10))⟩,
    ⟨(some 61), none, (.ld true 2 (.t 5))⟩,
    ⟨(some 62), none, (.call 77 [(.t 59), (.t 60), (.t 61)])⟩,
    ⟨(some 63), none, (.mv (.t 11))⟩,
    ⟨none, none, (.st 4 (.t 8) (.t 62))⟩,
    ⟨(some 9), none, (.mv (.t 63))⟩])
  .ret))))))))
  (.seq (.reg [] [⟨(some 64), none, (.mv (.t 0))⟩,
    ⟨(some 65), none, (.ld true 2 (.t 5))⟩,
    ⟨(some 66), none, (.call 40 [(.t 64), (.t 65)])⟩,
    ⟨(some 67), none, (.mv (.t 11))⟩,
    ⟨none, none, (.st 4 (.t 8) (.t 66))⟩,
    ⟨(some 9), none, (.mv (.t 67))⟩])
  .ret)))))))), [(.cell 8 true 4), (.tmp 9)], [], true⟩
theorem fo115 : compF Tryz.prog 115 = some ⟨fe115.N, fe115.xc.er, fe115.rs⟩ := by kernel_rfl
theorem ox115 : okX fe115.xc = true := by kernel_rfl
theorem hb115 : hasBody Tryz.prog 115 = true := by kernel_rfl
theorem fk115 : FEOK Tryz.prog 115 fe115 := ⟨fo115, ox115, hb115⟩

/-- isohyet/grow.parted -/
def fe116 : FE := ⟨38, (.seq (.reg [3, 4] [⟨(some 3), none, (.box (.t 1))⟩,
    ⟨(some 4), none, (.new [(.lit (.int .i64 0)), (.lit (.int .i64 0))])⟩,
    ⟨(some 5), none, (.mv (.k (.lit (.bool false))))⟩])
  (.seq (.seq (.reg [] [⟨(some 9), none, (.fad 0 (.t 3))⟩,
    ⟨(some 10), none, (.ld false 1 (.t 9))⟩,
    ⟨(some 11), none, (.bin .neq (.t 10) (.k (.lit (.int .i64 1))))⟩])
  (.cond (.t 11) (.seq (.reg [] [⟨(some 12), none, (.bld [(.lit (.int .i64 0)), (.lit (.int .i64 0))] [])⟩,
    ⟨none, none, (.st 2 (.t 4) (.t 12))⟩,
    ⟨(some 5), none, (.mv (.k (.lit (.bool false))))⟩])
  .ret) .skip))
  (.seq (.reg [] [⟨(some 14), none, (.mv (.t 0))⟩,
    ⟨(some 15), none, (.fad 2 (.t 3))⟩,
    ⟨(some 16), none, (.ld false 1 (.t 15))⟩,
    ⟨(some 17), none, (.fad 3 (.t 3))⟩,
    ⟨(some 18), none, (.ld false 1 (.t 17))⟩,
    ⟨(some 19), none, (.call 49 [(.t 14), (.t 16), (.t 18)])⟩,
    ⟨(some 13), none, (.mv (.t 19))⟩,
    ⟨(some 20), none, (.ext (.t 13) 0)⟩,
    ⟨(some 21), none, (.ext (.t 13) 1)⟩,
    ⟨(some 22), none, (.ext (.t 13) 2)⟩,
    ⟨(some 6), none, (.mv (.t 20))⟩,
    ⟨(some 7), none, (.mv (.t 21))⟩,
    ⟨(some 8), none, (.mv (.t 22))⟩])
  (.seq (.regd [] [[], [0], [], [2], [1, 3], [], [5], [6], [7], [], [], [8, 9], [11], [12, 10], [13], [4, 0, 1, 2, 3, 4], [14, 15, 0, 1, 2, 3, 4, 5, 6, 7, 8, 9, 10, 11, 12, 13, 14, 15]] [(⟨(some 23), none, (.fad 2 (.t 3))⟩, ⟨[3], none, false, false⟩),
    (⟨(some 24), none, (.ld false 1 (.t 23))⟩, ⟨[3], none, false, false⟩),
    (⟨(some 25), none, (.fad 3 (.t 3))⟩, ⟨[3], none, false, false⟩),
    (⟨(some 26), none, (.ld false 1 (.t 25))⟩, ⟨[3], none, false, false⟩),
    (⟨(some 27), none, (.bld [(.lit (.int .i64 0)), (.lit (.int .i64 0))] [(0, (1, (.t 24))), (1, (1, (.t 26)))])⟩, ⟨[], none, false, false⟩),
    (⟨(some 28), none, (.mv (.t 0))⟩, ⟨[], none, false, false⟩),
    (⟨(some 29), none, (.nck (.t 28))⟩, ⟨[], none, false, false⟩),
    (⟨(some 30), none, (.fad 1 (.t 29))⟩, ⟨[], none, false, false⟩),
    (⟨(some 31), none, (.ld false 1 (.t 30))⟩, ⟨[], none, true, false⟩),
    (⟨(some 32), none, (.mv (.t 6))⟩, ⟨[], none, false, false⟩),
    (⟨(some 33), none, (.mv (.t 7))⟩, ⟨[], none, false, false⟩),
    (⟨(some 34), none, (.iad 9 (.t 31) (.t 32))⟩, ⟨[], none, false, false⟩),
    (⟨(some 35), none, (.fad 6 (.t 34))⟩, ⟨[], none, false, false⟩),
    (⟨(some 36), none, (.iaa 3 1 (.t 35) (.t 33))⟩, ⟨[], none, false, false⟩),
    (⟨(some 37), none, (.ld false 1 (.t 36))⟩, ⟨[], none, true, false⟩),
    (⟨none, none, (.st 2 (.t 4) (.t 27))⟩, ⟨[4], some 4, false, false⟩),
    (⟨(some 5), none, (.mv (.t 37))⟩, ⟨[], none, false, false⟩)])
  .ret)))), [(.cell 4 true 2), (.tmp 5)], [], true⟩
theorem fo116 : compF Tryz.prog 116 = some ⟨fe116.N, fe116.xc.er, fe116.rs⟩ := by kernel_rfl
theorem ox116 : okX fe116.xc = true := by kernel_rfl
theorem hb116 : hasBody Tryz.prog 116 = true := by kernel_rfl
theorem fk116 : FEOK Tryz.prog 116 fe116 := ⟨fo116, ox116, hb116⟩

/-- (*isohyet/mesh.Mesh).Drop -/
def fe117 : FE := ⟨23, (.seq (.reg [] [⟨(some 4), none, (.mv (.t 0))⟩,
    ⟨(some 5), none, (.nck (.t 4))⟩,
    ⟨(some 6), none, (.fad 1 (.t 5))⟩,
    ⟨(some 7), none, (.ld false 1 (.t 6))⟩,
    ⟨(some 8), none, (.mv (.t 1))⟩,
    ⟨(some 9), none, (.bld [(.lit (.int .i64 0)), (.lit (.int .i64 0)), (.lit (.int .i64 0))] [(0, (1, (.k (.lit (.int .i64 (-2)))))), (1, (1, (.k (.lit (.int .i64 (-2)))))), (2, (1, (.k (.lit (.int .i64 (-2))))))])⟩,
    ⟨(some 10), none, (.bld [(.lit (.int .i64 0)), (.lit (.int .i64 0)), (.lit (.int .i64 0))] [(0, (1, (.k (.lit (.int .i64 (-1)))))), (1, (1, (.k (.lit (.int .i64 (-1)))))), (2, (1, (.k (.lit (.int .i64 (-1))))))])⟩,
    ⟨(some 11), none, (.bld [(.lit (.int .i64 0)), (.lit (.int .i64 0)), (.lit (.int .i64 0)), (.lit (.int .i64 0)), (.lit (.int .i64 0)), (.lit (.int .i64 0)), (.lit (.bool false)), (.lit (.bool false)), (.lit (.bool false))] [(0, (3, (.t 9))), (3, (3, (.t 10)))])⟩,
    ⟨(some 12), none, (.iad 9 (.t 7) (.t 8))⟩,
    ⟨none, none, (.st 9 (.t 12) (.t 11))⟩])
  (.reg [] [⟨(some 13), none, (.mv (.t 0))⟩,
    ⟨(some 14), none, (.mv (.t 0))⟩,
    ⟨(some 15), none, (.nck (.t 14))⟩,
    ⟨(some 16), none, (.fad 2 (.t 15))⟩,
    ⟨(some 17), none, (.ld false 1 (.t 16))⟩,
    ⟨(some 18), none, (.mv (.t 1))⟩,
    ⟨(some 19), none, (.bsl 1 1 [(.lit (.int .i64 0))] [(0, (1, (.t 18)))])⟩,
    ⟨(some 20), none, (.app 1 8 (.t 17) (.t 19))⟩,
    ⟨(some 21), none, (.nck (.t 13))⟩,
    ⟨(some 22), none, (.fad 2 (.t 21))⟩,
    ⟨none, none, (.st 1 (.t 22) (.t 20))⟩])), [], [], false⟩
theorem fo117 : compF Tryz.prog 117 = some ⟨fe117.N, fe117.xc.er, fe117.rs⟩ := by kernel_rfl
theorem ox117 : okX fe117.xc = true := by kernel_rfl
theorem hb117 : hasBody Tryz.prog 117 = true := by kernel_rfl
theorem fk117 : FEOK Tryz.prog 117 fe117 := ⟨fo117, ox117, hb117⟩

/-- (*isohyet/mesh.Mesh).All$1 -/
def fe118 : FE := ⟨26, (.seq (.reg [] [⟨(some 5), none, (.ld false 1 (.t 1))⟩,
    ⟨(some 6), none, (.nck (.t 5))⟩,
    ⟨(some 7), none, (.fad 1 (.t 6))⟩,
    ⟨(some 8), none, (.ld false 1 (.t 7))⟩,
    ⟨(some 9), none, (.len (.t 8))⟩,
    ⟨(some 10), none, (.mv (.k (.lit (.int .i64 0))))⟩])
  (.block 0 (.loop (.seq (.reg [] [⟨(some 11), none, (.bin .lss (.t 10) (.t 9))⟩])
  (.seq (.cond (.t 11) .skip (.exit 0))
  (.seq (.block 1 (.seq (.reg [4] [⟨(some 12), none, (.mv (.t 10))⟩,
    ⟨(some 13), none, (.iad 9 (.t 8) (.t 10))⟩,
    ⟨(some 14), none, (.ld true 9 (.t 13))⟩,
    ⟨(some 4), none, (.new [(.lit (.int .i64 0)), (.lit (.int .i64 0)), (.lit (.int .i64 0)), (.lit (.int .i64 0)), (.lit (.int .i64 0)), (.lit (.int .i64 0)), (.lit (.bool false)), (.lit (.bool false)), (.lit (.bool false))])⟩,
    ⟨(some 3), none, (.mv (.t 12))⟩,
    ⟨none, none, (.st 9 (.t 4) (.t 14))⟩])
  (.seq (.reg [] [⟨(some 15), none, (.ld false 1 (.t 1))⟩,
    ⟨(some 16), none, (.mv (.t 3))⟩,
    ⟨(some 17), none, (.call 50 [(.t 15), (.t 16)])⟩,
    ⟨(some 18), none, (.mv (.t 17))⟩,
    ⟨(some 19), (some (18, true)), (.mv (.t 0))⟩,
    ⟨(some 20), (some (18, true)), (.mv (.t 3))⟩,
    ⟨(some 21), (some (18, true)), (.ld true 9 (.t 4))⟩,
    ⟨(some 22), (some (18, true)), (.callv (.t 19) [(.t 20), (.t 21)])⟩,
    ⟨(some 23), (some (18, true)), (.un .not (.t 22))⟩,
    ⟨(some 24), none, (.pick (.t 18) (.t 23) (.k (.lit (.bool false))))⟩])
  (.cond (.t 24) .ret .skip))))
  (.reg [] [⟨(some 25), none, (.bin .add (.t 10) (.k (.lit (.int .i64 1))))⟩,
    ⟨(some 10), none, (.mv (.t 25))⟩]))))))), [], [], false⟩
theorem fo118 : compF Tryz.prog 118 = some ⟨fe118.N, fe118.xc.er, fe118.rs⟩ := by kernel_rfl
theorem ox118 : okX fe118.xc = true := by kernel_rfl
theorem hb118 : hasBody Tryz.prog 118 = true := by kernel_rfl
theorem fk118 : FEOK Tryz.prog 118 fe118 := ⟨fo118, ox118, hb118⟩

/-- (*isohyet/mesh.Mesh).Around$1 -/
def fe126 : FE := ⟨46, (.seq (.regd [] [[], [0], [1], [2], [], [3, 4], [5], [6, 0, 1, 2, 3, 4, 5, 6]] [(⟨(some 7), none, (.ld false 1 (.t 1))⟩, ⟨[], none, true, false⟩),
    (⟨(some 8), none, (.nck (.t 7))⟩, ⟨[], none, false, false⟩),
    (⟨(some 9), none, (.fad 3 (.t 8))⟩, ⟨[], none, false, false⟩),
    (⟨(some 10), none, (.ld false 1 (.t 9))⟩, ⟨[], none, true, false⟩),
    (⟨(some 11), none, (.ld false 1 (.t 2))⟩, ⟨[], none, true, false⟩),
    (⟨(some 12), none, (.iad 1 (.t 10) (.t 11))⟩, ⟨[], none, false, false⟩),
    (⟨(some 13), none, (.ld false 1 (.t 12))⟩, ⟨[], none, true, false⟩),
    (⟨(some 4), none, (.mv (.t 13))⟩, ⟨[], none, false, false⟩)])
  (.seq (.reg [] [⟨(some 14), none, (.mv (.t 4))⟩,
    ⟨(some 5), none, (.mv (.t 14))⟩])
  (.block 0 (.loop (.seq (.seq (.reg [] [⟨(some 15), none, (.mv (.t 5))⟩,
    ⟨(some 16), none, (.bin .geq (.t 15) (.k (.lit (.int .i64 0))))⟩])
  (.cond (.t 16) .skip (.exit 0)))
  (.block 1 (.seq (.regd [] [[], [0], [1], [2], [], [3, 4], [5], [], [6, 7], [8, 8, 0, 1, 2, 3, 4, 5, 6, 7, 8]] [(⟨(some 17), none, (.ld false 1 (.t 1))⟩, ⟨[], none, true, false⟩),
    (⟨(some 18), none, (.nck (.t 17))⟩, ⟨[], none, false, false⟩),
    (⟨(some 19), none, (.fad 1 (.t 18))⟩, ⟨[], none, false, false⟩),
    (⟨(some 20), none, (.ld false 1 (.t 19))⟩, ⟨[], none, true, false⟩),
    (⟨(some 21), none, (.mv (.t 5))⟩, ⟨[], none, false, false⟩),
    (⟨(some 22), none, (.iad 9 (.t 20) (.t 21))⟩, ⟨[], none, false, false⟩),
    (⟨(some 23), none, (.ld true 9 (.t 22))⟩, ⟨[], none, true, false⟩),
    (⟨(some 24), none, (.ld false 1 (.t 2))⟩, ⟨[], none, true, false⟩),
    (⟨(some 25), none, (.call 127 [(.t 23), (.t 24)])⟩, ⟨[], none, true, false⟩),
    (⟨(some 6), none, (.mv (.t 25))⟩, ⟨[], none, false, false⟩)])
  (.seq (.seq (.reg [] [⟨(some 26), none, (.mv (.t 0))⟩,
    ⟨(some 27), none, (.mv (.t 5))⟩,
    ⟨(some 28), none, (.mv (.t 6))⟩,
    ⟨(some 29), none, (.callv (.t 26) [(.t 27), (.t 28)])⟩,
    ⟨(some 30), none, (.un .not (.t 29))⟩])
  (.cond (.t 30) .ret .skip))
  (.seq (.reg [] [⟨(some 31), none, (.ld false 1 (.t 1))⟩,
    ⟨(some 32), none, (.nck (.t 31))⟩,
    ⟨(some 33), none, (.fad 1 (.t 32))⟩,
    ⟨(some 34), none, (.ld false 1 (.t 33))⟩,
    ⟨(some 35), none, (.mv (.t 5))⟩,
    ⟨(some 36), none, (.mv (.t 6))⟩,
    ⟨(some 37), none, (.bin .add (.t 36) (.k (.lit (.int .i64 1))))⟩,
    ⟨(some 38), none, (.bin .rem (.t 37) (.k (.lit (.int .i64 3))))⟩,
    ⟨(some 39), none, (.iad 9 (.t 34) (.t 35))⟩,
    ⟨(some 40), none, (.fad 3 (.t 39))⟩,
    ⟨(some 41), none, (.iaa 3 1 (.t 40) (.t 38))⟩,
    ⟨(some 42), none, (.ld false 1 (.t 41))⟩,
    ⟨(some 5), none, (.mv (.t 42))⟩])
  (.seq (.reg [] [⟨(some 43), none, (.mv (.t 5))⟩,
    ⟨(some 44), none, (.mv (.t 4))⟩,
    ⟨(some 45), none, (.bin .eql (.t 43) (.t 44))⟩])
  (.cond (.t 45) .ret .skip))))))))))), [], [], false⟩
theorem fo126 : compF Tryz.prog 126 = some ⟨fe126.N, fe126.xc.er, fe126.rs⟩ := by kernel_rfl
theorem ox126 : okX fe126.xc = true := by kernel_rfl
theorem hb126 : hasBody Tryz.prog 126 = true := by kernel_rfl
theorem fk126 : FEOK Tryz.prog 126 fe126 := ⟨fo126, ox126, hb126⟩

/-- (isohyet/mesh.Tri).place -/
def fe127 : FE := ⟨9, (.seq (.reg [2] [⟨(some 2), none, (.box (.t 0))⟩,
    ⟨(some 4), none, (.mv (.k (.lit (.int .i64 0))))⟩])
  (.seq (.reg [] [⟨(some 5), none, (.fad 0 (.t 2))⟩,
    ⟨(some 6), none, (.sla 3 1 (.t 5) none none)⟩,
    ⟨(some 7), none, (.mv (.t 1))⟩,
    ⟨(some 8), none, (.call 54 [(.t 6), (.t 7)])⟩,
    ⟨(some 4), none, (.mv (.t 8))⟩])
  .ret)), [(.tmp 4)], [], true⟩
theorem fo127 : compF Tryz.prog 127 = some ⟨fe127.N, fe127.xc.er, fe127.rs⟩ := by kernel_rfl
theorem ox127 : okX fe127.xc = true := by kernel_rfl
theorem hb127 : hasBody Tryz.prog 127 = true := by kernel_rfl
theorem fk127 : FEOK Tryz.prog 127 fe127 := ⟨fo127, ox127, hb127⟩

/-- isohyet/wide.Sign -/
def fe128 : FE := ⟨10, (.seq (.reg [1] [⟨(some 1), none, (.box (.t 0))⟩,
    ⟨(some 2), none, (.mv (.k (.lit (.int .i64 0))))⟩])
  (.seq (.block 0 (.seq (.reg [] [⟨(some 4), none, (.ld true 2 (.t 1))⟩,
    ⟨(some 5), none, (.call 147 [(.t 4)])⟩,
    ⟨(some 3), none, (.mv (.t 5))⟩])
  (.cond (.t 3) (.seq (.reg [] [⟨(some 2), none, (.mv (.k (.lit (.int .i64 (-1)))))⟩])
  .ret) (.seq (.reg [] [⟨(some 7), none, (.ld true 2 (.t 1))⟩,
    ⟨(some 8), none, (.bld [(.lit (.int .u64 0)), (.lit (.int .u64 0))] [])⟩,
    ⟨(some 9), none, (.eqc false [true, true] (.t 7) (.t 8))⟩,
    ⟨(some 6), none, (.mv (.t 9))⟩])
  (.cond (.t 6) (.seq (.reg [] [⟨(some 2), none, (.mv (.k (.lit (.int .i64 0))))⟩])
  .ret) .skip)))))
  (.seq (.reg [] [⟨(some 2), none, (.mv (.k (.lit (.int .i64 1))))⟩])
  .ret))), [(.tmp 2)], [], true⟩
theorem fo128 : compF Tryz.prog 128 = some ⟨fe128.N, fe128.xc.er, fe128.rs⟩ := by kernel_rfl
theorem ox128 : okX fe128.xc = true := by kernel_rfl
theorem hb128 : hasBody Tryz.prog 128 = true := by kernel_rfl
theorem fk128 : FEOK Tryz.prog 128 fe128 := ⟨fo128, ox128, hb128⟩

/-- isohyet/pred.On -/
def fe129 : FE := ⟨52, (.seq (.reg [3, 4, 5] [⟨(some 3), none, (.box (.t 0))⟩,
    ⟨(some 4), none, (.box (.t 1))⟩,
    ⟨(some 5), none, (.box (.t 2))⟩,
    ⟨(some 6), none, (.mv (.k (.lit (.bool false))))⟩])
  (.seq (.reg [] [⟨(some 7), none, (.ld true 2 (.t 4))⟩,
    ⟨(some 8), none, (.ld true 2 (.t 5))⟩,
    ⟨(some 9), none, (.ld true 2 (.t 3))⟩,
    ⟨(some 10), none, (.call 89 [(.t 7), (.t 8), (.t 9)])⟩,
    ⟨(some 11), none, (.bin .eql (.t 10) (.k (.lit (.int .i64 0))))⟩,
    ⟨(some 12), none, (.mv (.t 11))⟩,
    ⟨(some 13), (some (12, true)), (.fad 0 (.t 4))⟩,
    ⟨(some 14), (some (12, true)), (.ld false 1 (.t 13))⟩,
    ⟨(some 15), (some (12, true)), (.fad 0 (.t 5))⟩,
    ⟨(some 16), (some (12, true)), (.ld false 1 (.t 15))⟩,
    ⟨(some 17), (some (12, true)), (.mnx false [(.t 14), (.t 16)])⟩,
    ⟨(some 18), (some (12, true)), (.fad 0 (.t 3))⟩,
    ⟨(some 19), (some (12, true)), (.ld false 1 (.t 18))⟩,
    ⟨(some 20), (some (12, true)), (.bin .leq (.t 17) (.t 19))⟩,
    ⟨(some 21), none, (.pick (.t 12) (.t 20) (.k (.lit (.bool false))))⟩,
    ⟨(some 22), none, (.mv (.t 21))⟩,
    ⟨(some 23), (some (22, true)), (.fad 0 (.t 3))⟩,
    ⟨(some 24), (some (22, true)), (.ld false 1 (.t 23))⟩,
    ⟨(some 25), (some (22, true)), (.fad 0 (.t 4))⟩,
    ⟨(some 26), (some (22, true)), (.ld false 1 (.t 25))⟩,
    ⟨(some 27), (some (22, true)), (.fad 0 (.t 5))⟩,
    ⟨(some 28), (some (22, true)), (.ld false 1 (.t 27))⟩,
    ⟨(some 29), (some (22, true)), (.mnx true [(.t 26), (.t 28)])⟩,
    ⟨(some 30), (some (22, true)), (.bin .leq (.t 24) (.t 29))⟩,
    ⟨(some 31), none, (.pick (.t 22) (.t 30) (.k (.lit (.bool false))))⟩,
    ⟨(some 32), none, (.mv (.t 31))⟩,
    ⟨(some 33), (some (32, true)), (.fad 1 (.t 4))⟩,
    ⟨(some 34), (some (32, true)), (.ld false 1 (.t 33))⟩,
    ⟨(some 35), (some (32, true)), (.fad 1 (.t 5))⟩,
    ⟨(some 36), (some (32, true)), (.ld false 1 (.t 35))⟩,
    ⟨(some 37), (some (32, true)), (.mnx false [(.t 34), (.t 36)])⟩,
    ⟨(some 38), (some (32, true)), (.fad 1 (.t 3))⟩,
    ⟨(some 39), (some (32, true)), (.ld false 1 (.t 38))⟩,
    ⟨(some 40), (some (32, true)), (.bin .leq (.t 37) (.t 39))⟩,
    ⟨(some 41), none, (.pick (.t 32) (.t 40) (.k (.lit (.bool false))))⟩,
    ⟨(some 42), none, (.mv (.t 41))⟩,
    ⟨(some 43), (some (42, true)), (.fad 1 (.t 3))⟩,
    ⟨(some 44), (some (42, true)), (.ld false 1 (.t 43))⟩,
    ⟨(some 45), (some (42, true)), (.fad 1 (.t 4))⟩,
    ⟨(some 46), (some (42, true)), (.ld false 1 (.t 45))⟩,
    ⟨(some 47), (some (42, true)), (.fad 1 (.t 5))⟩,
    ⟨(some 48), (some (42, true)), (.ld false 1 (.t 47))⟩,
    ⟨(some 49), (some (42, true)), (.mnx true [(.t 46), (.t 48)])⟩,
    ⟨(some 50), (some (42, true)), (.bin .leq (.t 44) (.t 49))⟩,
    ⟨(some 51), none, (.pick (.t 42) (.t 50) (.k (.lit (.bool false))))⟩,
    ⟨(some 6), none, (.mv (.t 51))⟩])
  .ret)), [(.tmp 6)], [], true⟩
theorem fo129 : compF Tryz.prog 129 = some ⟨fe129.N, fe129.xc.er, fe129.rs⟩ := by kernel_rfl
theorem ox129 : okX fe129.xc = true := by kernel_rfl
theorem hb129 : hasBody Tryz.prog 129 = true := by kernel_rfl
theorem fk129 : FEOK Tryz.prog 129 fe129 := ⟨fo129, ox129, hb129⟩

/-- isohyet/pred.small -/
def fe130 : FE := ⟨18, (.seq (.reg [] [⟨(some 2), none, (.mv (.k (.lit (.bool false))))⟩])
  (.seq (.seq (.reg [] [⟨(some 5), none, (.mv (.t 0))⟩,
    ⟨(some 6), none, (.len (.t 5))⟩,
    ⟨(some 7), none, (.mv (.k (.lit (.int .i64 0))))⟩])
  (.block 0 (.loop (.seq (.reg [] [⟨(some 8), none, (.bin .lss (.t 7) (.t 6))⟩])
  (.seq (.cond (.t 8) .skip (.exit 0))
  (.seq (.block 1 (.seq (.reg [] [⟨(some 9), none, (.iad 1 (.t 5) (.t 7))⟩,
    ⟨(some 10), none, (.ld false 1 (.t 9))⟩,
    ⟨(some 4), none, (.mv (.t 10))⟩])
  (.seq (.reg [] [⟨(some 11), none, (.mv (.t 4))⟩,
    ⟨(some 12), none, (.bin .lss (.t 11) (.k (.lit (.int .i64 (-1073741824)))))⟩,
    ⟨(some 13), none, (.mv (.t 12))⟩,
    ⟨(some 14), (some (13, false)), (.mv (.t 4))⟩,
    ⟨(some 15), (some (13, false)), (.bin .gtr (.t 14) (.k (.lit (.int .i64 1073741824))))⟩,
    ⟨(some 16), none, (.pick (.t 13) (.k (.lit (.bool true))) (.t 15))⟩])
  (.cond (.t 16) (.seq (.reg [] [⟨(some 2), none, (.mv (.k (.lit (.bool false))))⟩])
  .ret) .skip))))
  (.reg [] [⟨(some 17), none, (.bin .add (.t 7) (.k (.lit (.int .i64 1))))⟩,
    ⟨(some 7), none, (.mv (.t 17))⟩])))))))
  (.seq (.reg [] [⟨(some 2), none, (.mv (.k (.lit (.bool true))))⟩])
  .ret))), [(.tmp 2)], [], true⟩
theorem fo130 : compF Tryz.prog 130 = some ⟨fe130.N, fe130.xc.er, fe130.rs⟩ := by kernel_rfl
theorem ox130 : okX fe130.xc = true := by kernel_rfl
theorem hb130 : hasBody Tryz.prog 130 = true := by kernel_rfl
theorem fk130 : FEOK Tryz.prog 130 fe130 := ⟨fo130, ox130, hb130⟩

/-- isohyet/pred.quick -/
def fe131 : FE := ⟨81, (.seq (.reg [] [⟨(some 12), none, (.mv (.k (.lit (.int .i64 0))))⟩])
  (.seq (.reg [13] [⟨(some 20), none, (.mv (.t 2))⟩,
    ⟨(some 21), none, (.mv (.t 3))⟩,
    ⟨(some 22), none, (.mv (.t 4))⟩,
    ⟨(some 23), none, (.mv (.t 5))⟩,
    ⟨(some 24), none, (.call 134 [(.t 20), (.t 21), (.t 22), (.t 23)])⟩,
    ⟨(some 25), none, (.mv (.t 0))⟩,
    ⟨(some 26), none, (.mv (.t 0))⟩,
    ⟨(some 27), none, (.bin .mul (.t 25) (.t 26))⟩,
    ⟨(some 28), none, (.mv (.t 1))⟩,
    ⟨(some 29), none, (.mv (.t 1))⟩,
    ⟨(some 30), none, (.bin .mul (.t 28) (.t 29))⟩,
    ⟨(some 31), none, (.bin .add (.t 27) (.t 30))⟩,
    ⟨(some 32), none, (.call 162 [(.t 24), (.t 31)])⟩,
    ⟨(some 19), none, (.mv (.t 32))⟩,
    ⟨(some 33), none, (.ext (.t 19) 0)⟩,
    ⟨(some 34), none, (.ext (.t 19) 1)⟩,
    ⟨(some 13), none, (.new [(.lit (.int .u64 0)), (.lit (.int .u64 0))])⟩,
    ⟨none, none, (.st 2 (.t 13) (.t 33))⟩,
    ⟨(some 14), none, (.mv (.t 34))⟩])
  (.seq (.reg [15] [⟨(some 36), none, (.mv (.t 4))⟩,
    ⟨(some 37), none, (.mv (.t 5))⟩,
    ⟨(some 38), none, (.mv (.t 0))⟩,
    ⟨(some 39), none, (.mv (.t 1))⟩,
    ⟨(some 40), none, (.call 134 [(.t 36), (.t 37), (.t 38), (.t 39)])⟩,
    ⟨(some 41), none, (.mv (.t 2))⟩,
    ⟨(some 42), none, (.mv (.t 2))⟩,
    ⟨(some 43), none, (.bin .mul (.t 41) (.t 42))⟩,
    ⟨(some 44), none, (.mv (.t 3))⟩,
    ⟨(some 45), none, (.mv (.t 3))⟩,
    ⟨(some 46), none, (.bin .mul (.t 44) (.t 45))⟩,
    ⟨(some 47), none, (.bin .add (.t 43) (.t 46))⟩,
    ⟨(some 48), none, (.call 162 [(.t 40), (.t 47)])⟩,
    ⟨(some 35), none, (.mv (.t 48))⟩,
    ⟨(some 49), none, (.ext (.t 35) 0)⟩,
    ⟨(some 50), none, (.ext (.t 35) 1)⟩,
    ⟨(some 15), none, (.new [(.lit (.int .u64 0)), (.lit (.int .u64 0))])⟩,
    ⟨none, none, (.st 2 (.t 15) (.t 49))⟩,
    ⟨(some 16), none, (.mv (.t 50))⟩])
  (.seq (.reg [17] [⟨(some 52), none, (.mv (.t 0))⟩,
    ⟨(some 53), none, (.mv (.t 1))⟩,
    ⟨(some 54), none, (.mv (.t 2))⟩,
    ⟨(some 55), none, (.mv (.t 3))⟩,
    ⟨(some 56), none, (.call 134 [(.t 52), (.t 53), (.t 54), (.t 55)])⟩,
    ⟨(some 57), none, (.mv (.t 4))⟩,
    ⟨(some 58), none, (.mv (.t 4))⟩,
    ⟨(some 59), none, (.bin .mul (.t 57) (.t 58))⟩,
    ⟨(some 60), none, (.mv (.t 5))⟩,
    ⟨(some 61), none, (.mv (.t 5))⟩,
    ⟨(some 62), none, (.bin .mul (.t 60) (.t 61))⟩,
    ⟨(some 63), none, (.bin .add (.t 59) (.t 62))⟩,
    ⟨(some 64), none, (.call 162 [(.t 56), (.t 63)])⟩,
    ⟨(some 51), none, (.mv (.t 64))⟩,
    ⟨(some 65), none, (.ext (.t 51) 0)⟩,
    ⟨(some 66), none, (.ext (.t 51) 1)⟩,
    ⟨(some 17), none, (.new [(.lit (.int .u64 0)), (.lit (.int .u64 0))])⟩,
    ⟨none, none, (.st 2 (.t 17) (.t 65))⟩,
    ⟨(some 18), none, (.mv (.t 66))⟩])
  (.seq (.reg [] [⟨(some 68), none, (.ld true 2 (.t 13))⟩,
    ⟨(some 69), none, (.ld true 2 (.t 15))⟩,
    ⟨(some 70), none, (.call 163 [(.t 68), (.t 69)])⟩,
    ⟨(some 67), none, (.mv (.t 70))⟩,
    ⟨(some 71), none, (.ext (.t 67) 0)⟩,
    ⟨(some 72), none, (.ext (.t 67) 1)⟩,
    ⟨none, none, (.st 2 (.t 13) (.t 71))⟩])
  (.seq (.reg [] [⟨(some 74), none, (.ld true 2 (.t 13))⟩,
    ⟨(some 75), none, (.ld true 2 (.t 17))⟩,
    ⟨(some 76), none, (.call 163 [(.t 74), (.t 75)])⟩,
    ⟨(some 73), none, (.mv (.t 76))⟩,
    ⟨(some 77), none, (.ext (.t 73) 0)⟩,
    ⟨(some 78), none, (.ext (.t 73) 1)⟩,
    ⟨none, none, (.st 2 (.t 13) (.t 77))⟩])
  (.seq (.reg [] [⟨(some 79), none, (.ld true 2 (.t 13))⟩,
    ⟨(some 80), none, (.call 128 [(.t 79)])⟩,
    ⟨(some 12), none, (.mv (.t 80))⟩])
  .ret))))))), [(.tmp 12)], [], true⟩
theorem fo131 : compF Tryz.prog 131 = some ⟨fe131.N, fe131.xc.er, fe131.rs⟩ := by kernel_rfl
theorem ox131 : okX fe131.xc = true := by kernel_rfl
theorem hb131 : hasBody Tryz.prog 131 = true := by kernel_rfl
theorem fk131 : FEOK Tryz.prog 131 fe131 := ⟨fo131, ox131, hb131⟩

/-- isohyet/pred.Circle$1 -/
def fe132 : FE := ⟨14, (.seq (.reg [4] [⟨(some 4), none, (.new [(.lit (.bool false)), (.lit (.slice none 0 0))])⟩])
  (.seq (.reg [] [⟨(some 5), none, (.mv (.t 0))⟩,
    ⟨(some 6), none, (.mv (.t 0))⟩,
    ⟨(some 7), none, (.call 95 [(.t 5), (.t 6)])⟩,
    ⟨(some 8), none, (.call 94 [(.t 7)])⟩,
    ⟨(some 9), none, (.mv (.t 1))⟩,
    ⟨(some 10), none, (.mv (.t 1))⟩,
    ⟨(some 11), none, (.call 95 [(.t 9), (.t 10)])⟩,
    ⟨(some 12), none, (.call 94 [(.t 11)])⟩,
    ⟨(some 13), none, (.call 64 [(.t 8), (.t 12)])⟩,
    ⟨none, none, (.st 2 (.t 4) (.t 13))⟩])
  .ret)), [(.cell 4 true 2)], [], true⟩
theorem fo132 : compF Tryz.prog 132 = some ⟨fe132.N, fe132.xc.er, fe132.rs⟩ := by kernel_rfl
theorem ox132 : okX fe132.xc = true := by kernel_rfl
theorem hb132 : hasBody Tryz.prog 132 = true := by kernel_rfl
theorem fk132 : FEOK Tryz.prog 132 fe132 := ⟨fo132, ox132, hb132⟩

/-- isohyet/pred.Circle$2 -/
def fe133 : FE := ⟨15, (.seq (.reg [8] [⟨(some 8), none, (.new [(.lit (.bool false)), (.lit (.slice none 0 0))])⟩])
  (.seq (.reg [] [⟨(some 9), none, (.mv (.t 0))⟩,
    ⟨(some 10), none, (.mv (.t 1))⟩,
    ⟨(some 11), none, (.mv (.t 2))⟩,
    ⟨(some 12), none, (.mv (.t 3))⟩,
    ⟨(some 13), none, (.call 134 [(.t 9), (.t 10), (.t 11), (.t 12)])⟩,
    ⟨(some 14), none, (.call 94 [(.t 13)])⟩,
    ⟨none, none, (.st 2 (.t 8) (.t 14))⟩])
  .ret)), [(.cell 8 true 2)], [], true⟩
theorem fo133 : compF Tryz.prog 133 = some ⟨fe133.N, fe133.xc.er, fe133.rs⟩ := by kernel_rfl
theorem ox133 : okX fe133.xc = true := by kernel_rfl
theorem hb133 : hasBody Tryz.prog 133 = true := by kernel_rfl
theorem fk133 : FEOK Tryz.prog 133 fe133 := ⟨fo133, ox133, hb133⟩

/-- isohyet/wide.Det -/
def fe134 : FE := ⟨22, (.seq (.reg [8] [⟨(some 8), none, (.new [(.lit (.int .u64 0)), (.lit (.int .u64 0))])⟩])
  (.seq (.reg [9] [⟨(some 12), none, (.mv (.t 0))⟩,
    ⟨(some 13), none, (.mv (.t 3))⟩,
    ⟨(some 14), none, (.call 95 [(.t 12), (.t 13)])⟩,
    ⟨(some 15), none, (.mv (.t 1))⟩,
    ⟨(some 16), none, (.mv (.t 2))⟩,
    ⟨(some 17), none, (.call 95 [(.t 15), (.t 16)])⟩,
    ⟨(some 18), none, (.call 164 [(.t 14), (.t 17)])⟩,
    ⟨(some 11), none, (.mv (.t 18))⟩,
    ⟨(some 19), none, (.ext (.t 11) 0)⟩,
    ⟨(some 20), none, (.ext (.t 11) 1)⟩,
    ⟨(some 9), none, (.new [(.lit (.int .u64 0)), (.lit (.int .u64 0))])⟩,
    ⟨none, none, (.st 2 (.t 9) (.t 19))⟩,
    ⟨(some 10), none, (.mv (.t 20))⟩])
  (.seq (.reg [] [⟨(some 21), none, (.ld true 2 (.t 9))⟩,
    ⟨none, none, (.st 2 (.t 8) (.t 21))⟩])
  .ret))), [(.cell 8 true 2)], [], true⟩
theorem fo134 : compF Tryz.prog 134 = some ⟨fe134.N, fe134.xc.er, fe134.rs⟩ := by kernel_rfl
theorem ox134 : okX fe134.xc = true := by kernel_rfl
theorem hb134 : hasBody Tryz.prog 134 = true := by kernel_rfl
theorem fk134 : FEOK Tryz.prog 134 fe134 := ⟨fo134, ox134, hb134⟩

/-- isohyet/num.Sum -/
def fe135 : FE := ⟨17, (.seq (.reg [2] [⟨(some 2), none, (.new [(.lit (.bool false)), (.lit (.slice none 0 0))])⟩])
  (.seq (.reg [3] [⟨(some 3), none, (.new [(.lit (.bool false)), (.lit (.slice none 0 0))])⟩])
  (.seq (.seq (.reg [] [⟨(some 6), none, (.mv (.t 0))⟩,
    ⟨(some 7), none, (.len (.t 6))⟩,
    ⟨(some 8), none, (.mv (.k (.lit (.int .i64 0))))⟩])
  (.block 0 (.loop (.seq (.reg [] [⟨(some 9), none, (.bin .lss (.t 8) (.t 7))⟩])
  (.seq (.cond (.t 9) .skip (.exit 0))
  (.seq (.block 1 (.seq (.reg [5] [⟨(some 10), none, (.iad 2 (.t 6) (.t 8))⟩,
    ⟨(some 11), none, (.ld true 2 (.t 10))⟩,
    ⟨(some 5), none, (.new [(.lit (.bool false)), (.lit (.slice none 0 0))])⟩,
    ⟨none, none, (.st 2 (.t 5) (.t 11))⟩])
  (.reg [] [⟨(some 12), none, (.ld true 2 (.t 3))⟩,
    ⟨(some 13), none, (.ld true 2 (.t 5))⟩,
    ⟨(some 14), none, (.call 64 [(.t 12), (.t 13)])⟩,
    ⟨none, none, (.st 2 (.t 3) (.t 14))⟩])))
  (.reg [] [⟨(some 15), none, (.bin .add (.t 8) (.k (.lit (.int .i64 1))))⟩,
    ⟨(some 8), none, (.mv (.t 15))⟩])))))))
  (.seq (.reg [] [⟨(some 16), none, (.ld true 2 (.t 3))⟩,
    ⟨none, none, (.st 2 (.t 2) (.t 16))⟩])
  .ret)))), [(.cell 2 true 2)], [], true⟩
theorem fo135 : compF Tryz.prog 135 = some ⟨fe135.N, fe135.xc.er, fe135.rs⟩ := by kernel_rfl
theorem ox135 : okX fe135.xc = true := by kernel_rfl
theorem hb135 : hasBody Tryz.prog 135 = true := by kernel_rfl
theorem fk135 : FEOK Tryz.prog 135 fe135 := ⟨fo135, ox135, hb135⟩

/-- slices.insertionSortOrdered[int] -/
def fe136 : FE := ⟨49, (.seq (.reg [] [⟨(some 8), none, (.mv (.t 1))⟩,
    ⟨(some 9), none, (.bin .add (.t 8) (.k (.lit (.int .i64 1))))⟩,
    ⟨(some 6), none, (.mv (.t 9))⟩])
  (.block 0 (.loop (.seq (.seq (.reg [] [⟨(some 10), none, (.mv (.t 6))⟩,
    ⟨(some 11), none, (.mv (.t 2))⟩,
    ⟨(some 12), none, (.bin .lss (.t 10) (.t 11))⟩])
  (.cond (.t 12) .skip (.exit 0)))
  (.seq (.block 1 (.seq (.reg [] [⟨(some 15), none, (.mv (.t 6))⟩,
    ⟨(some 7), none, (.mv (.t 15))⟩])
  (.block 2 (.loop (.seq (.seq (.regd [] [[], [], [0, 1], [2], [3], [3], [4, 5, 3], [6, 3], [3], [3], [9, 3], [8, 10, 3], [11, 3], [7, 12, 3, 3], [3, 13]] [(⟨(some 16), none, (.mv (.t 7))⟩, ⟨[], none, false, false⟩),
    (⟨(some 17), none, (.mv (.t 1))⟩, ⟨[], none, false, false⟩),
    (⟨(some 18), none, (.bin .gtr (.t 16) (.t 17))⟩, ⟨[], none, false, false⟩),
    (⟨(some 19), none, (.mv (.t 18))⟩, ⟨[], none, false, false⟩),
    (⟨(some 20), (some (19, true)), (.mv (.t 0))⟩, ⟨[], none, false, false⟩),
    (⟨(some 21), (some (19, true)), (.mv (.t 7))⟩, ⟨[], none, false, false⟩),
    (⟨(some 22), (some (19, true)), (.iad 1 (.t 20) (.t 21))⟩, ⟨[], none, false, false⟩),
    (⟨(some 23), (some (19, true)), (.ld false 1 (.t 22))⟩, ⟨[], none, true, false⟩),
    (⟨(some 24), (some (19, true)), (.mv (.t 0))⟩, ⟨[], none, false, false⟩),
    (⟨(some 25), (some (19, true)), (.mv (.t 7))⟩, ⟨[], none, false, false⟩),
    (⟨(some 26), (some (19, true)), (.bin .sub (.t 25) (.k (.lit (.int .i64 1))))⟩, ⟨[], none, false, false⟩),
    (⟨(some 27), (some (19, true)), (.iad 1 (.t 24) (.t 26))⟩, ⟨[], none, false, false⟩),
    (⟨(some 28), (some (19, true)), (.ld false 1 (.t 27))⟩, ⟨[], none, true, false⟩),
    (⟨(some 29), (some (19, true)), (.call 142 [(.t 23), (.t 28)])⟩, ⟨[], none, true, false⟩),
    (⟨(some 30), none, (.pick (.t 19) (.t 29) (.k (.lit (.bool false))))⟩, ⟨[], none, false, false⟩)])
  (.cond (.t 30) .skip (.exit 2)))
  (.seq (.block 3 (.regd [] [[], [], [], [], [3], [], [], [6], [5, 7], [8], [], [], [10, 11], [12], [0, 1, 0, 1, 5, 6, 7, 8, 9, 13], [14, 9, 0, 1, 5, 6, 7, 8, 9, 13], [2, 4, 0, 1, 2, 3, 4, 5, 6, 7, 8, 9, 10, 11, 12, 13, 14, 15], [16, 13, 15, 0, 1, 2, 3, 4, 5, 6, 7, 8, 9, 10, 11, 12, 13, 14, 15]] [(⟨(some 33), none, (.mv (.t 0))⟩, ⟨[], none, false, false⟩),
    (⟨(some 34), none, (.mv (.t 7))⟩, ⟨[], none, false, false⟩),
    (⟨(some 35), none, (.mv (.t 0))⟩, ⟨[], none, false, false⟩),
    (⟨(some 36), none, (.mv (.t 7))⟩, ⟨[], none, false, false⟩),
    (⟨(some 37), none, (.bin .sub (.t 36) (.k (.lit (.int .i64 1))))⟩, ⟨[], none, false, false⟩),
    (⟨(some 38), none, (.mv (.t 0))⟩, ⟨[], none, false, false⟩),
    (⟨(some 39), none, (.mv (.t 7))⟩, ⟨[], none, false, false⟩),
    (⟨(some 40), none, (.bin .sub (.t 39) (.k (.lit (.int .i64 1))))⟩, ⟨[], none, false, false⟩),
    (⟨(some 41), none, (.iad 1 (.t 38) (.t 40))⟩, ⟨[], none, false, false⟩),
    (⟨(some 42), none, (.ld false 1 (.t 41))⟩, ⟨[], none, true, false⟩),
    (⟨(some 43), none, (.mv (.t 0))⟩, ⟨[], none, false, false⟩),
    (⟨(some 44), none, (.mv (.t 7))⟩, ⟨[], none, false, false⟩),
    (⟨(some 45), none, (.iad 1 (.t 43) (.t 44))⟩, ⟨[], none, false, false⟩),
    (⟨(some 46), none, (.ld false 1 (.t 45))⟩, ⟨[], none, true, false⟩),
    (⟨(some 47), none, (.iad 1 (.t 33) (.t 34))⟩, ⟨[], none, false, false⟩),
    (⟨none, none, (.st 1 (.t 47) (.t 42))⟩, ⟨[], none, true, true⟩),
    (⟨(some 48), none, (.iad 1 (.t 35) (.t 37))⟩, ⟨[], none, false, false⟩),
    (⟨none, none, (.st 1 (.t 48) (.t 46))⟩, ⟨[], none, true, true⟩)]))
  (.reg [] [⟨(some 31), none, (.mv (.t 7))⟩,
    ⟨(some 32), none, (.bin .sub (.t 31) (.k (.lit (.int .i64 1))))⟩,
    ⟨(some 7), none, (.mv (.t 32))⟩])))))))
  (.reg [] [⟨(some 13), none, (.mv (.t 6))⟩,
    ⟨(some 14), none, (.bin .add (.t 13) (.k (.lit (.int .i64 1))))⟩,
    ⟨(some 6), none, (.mv (.t 14))⟩])))))), [], [], false⟩
theorem fo136 : compF Tryz.prog 136 = some ⟨fe136.N, fe136.xc.er, fe136.rs⟩ := by kernel_rfl
theorem ox136 : okX fe136.xc = true := by kernel_rfl
theorem hb136 : hasBody Tryz.prog 136 = true := by kernel_rfl
theorem fk136 : FEOK Tryz.prog 136 fe136 := ⟨fo136, ox136, hb136⟩

/-- slices.heapSortOrdered[int] -/
def fe137 : FE := ⟨56, (.seq (.reg [] [⟨(some 11), none, (.mv (.t 1))⟩,
    ⟨(some 6), none, (.mv (.t 11))⟩])
  (.seq (.reg [] [⟨(some 7), none, (.mv (.k (.lit (.int .i64 0))))⟩])
  (.seq (.reg [] [⟨(some 12), none, (.mv (.t 2))⟩,
    ⟨(some 13), none, (.mv (.t 1))⟩,
    ⟨(some 14), none, (.bin .sub (.t 12) (.t 13))⟩,
    ⟨(some 8), none, (.mv (.t 14))⟩])
  (.seq (.seq (.reg [] [⟨(some 15), none, (.mv (.t 8))⟩,
    ⟨(some 16), none, (.bin .sub (.t 15) (.k (.lit (.int .i64 1))))⟩,
    ⟨(some 17), none, (.bin .quo (.t 16) (.k (.lit (.int .i64 2))))⟩,
    ⟨(some 9), none, (.mv (.t 17))⟩])
  (.block 0 (.loop (.seq (.seq (.reg [] [⟨(some 18), none, (.mv (.t 9))⟩,
    ⟨(some 19), none, (.bin .geq (.t 18) (.k (.lit (.int .i64 0))))⟩])
  (.cond (.t 19) .skip (.exit 0)))
  (.seq (.block 1 (.reg [] [⟨(some 22), none, (.mv (.t 0))⟩,
    ⟨(some 23), none, (.mv (.t 9))⟩,
    ⟨(some 24), none, (.mv (.t 8))⟩,
    ⟨(some 25), none, (.mv (.t 6))⟩,
    ⟨(some 26), none, (.call 165 [(.t 22), (.t 23), (.t 24), (.t 25)])⟩]))
  (.reg [] [⟨(some 20), none, (.mv (.t 9))⟩,
    ⟨(some 21), none, (.bin .sub (.t 20) (.k (.lit (.int .i64 1))))⟩,
    ⟨(some 9), none, (.mv (.t 21))⟩]))))))
  (.seq (.reg [] [⟨(some 27), none, (.mv (.t 8))⟩,
    ⟨(some 28), none, (.bin .sub (.t 27) (.k (.lit (.int .i64 1))))⟩,
    ⟨(some 10), none, (.mv (.t 28))⟩])
  (.block 2 (.loop (.seq (.seq (.reg [] [⟨(some 29), none, (.mv (.t 10))⟩,
    ⟨(some 30), none, (.bin .geq (.t 29) (.k (.lit (.int .i64 0))))⟩])
  (.cond (.t 30) .skip (.exit 2)))
  (.seq (.block 3 (.seq (.regd [] [[], [], [], [], [], [3, 4], [], [], [], [7, 8], [6, 9], [10], [], [], [12, 13], [14], [0, 1, 0, 1, 6, 7, 8, 9, 10, 11, 15], [16, 11, 0, 1, 6, 7, 8, 9, 10, 11, 15], [2, 5, 0, 1, 2, 3, 4, 5, 6, 7, 8, 9, 10, 11, 12, 13, 14, 15, 16, 17], [18, 15, 17, 0, 1, 2, 3, 4, 5, 6, 7, 8, 9, 10, 11, 12, 13, 14, 15, 16, 17]] [(⟨(some 33), none, (.mv (.t 0))⟩, ⟨[], none, false, false⟩),
    (⟨(some 34), none, (.mv (.t 6))⟩, ⟨[], none, false, false⟩),
    (⟨(some 35), none, (.mv (.t 0))⟩, ⟨[], none, false, false⟩),
    (⟨(some 36), none, (.mv (.t 6))⟩, ⟨[], none, false, false⟩),
    (⟨(some 37), none, (.mv (.t 10))⟩, ⟨[], none, false, false⟩),
    (⟨(some 38), none, (.bin .add (.t 36) (.t 37))⟩, ⟨[], none, false, false⟩),
    (⟨(some 39), none, (.mv (.t 0))⟩, ⟨[], none, false, false⟩),
    (⟨(some 40), none, (.mv (.t 6))⟩, ⟨[], none, false, false⟩),
    (⟨(some 41), none, (.mv (.t 10))⟩, ⟨[], none, false, false⟩),
    (⟨(some 42), none, (.bin .add (.t 40) (.t 41))⟩, ⟨[], none, false, false⟩),
    (⟨(some 43), none, (.iad 1 (.t 39) (.t 42))⟩, ⟨[], none, false, false⟩),
    (⟨(some 44), none, (.ld false 1 (.t 43))⟩, ⟨[], none, true, false⟩),
    (⟨(some 45), none, (.mv (.t 0))⟩, ⟨[], none, false, false⟩),
    (⟨(some 46), none, (.mv (.t 6))⟩, ⟨[], none, false, false⟩),
    (⟨(some 47), none, (.iad 1 (.t 45) (.t 46))⟩, ⟨[], none, false, false⟩),
    (⟨(some 48), none, (.ld false 1 (.t 47))⟩, ⟨[], none, true, false⟩),
    (⟨(some 49), none, (.iad 1 (.t 33) (.t 34))⟩, ⟨[], none, false, false⟩),
    (⟨none, none, (.st 1 (.t 49) (.t 44))⟩, ⟨[], none, true, true⟩),
    (⟨(some 50), none, (.iad 1 (.t 35) (.t 38))⟩, ⟨[], none, false, false⟩),
    (⟨none, none, (.st 1 (.t 50) (.t 48))⟩, ⟨[], none, true, true⟩)])
  (.reg [] [⟨(some 51), none, (.mv (.t 0))⟩,
    ⟨(some 52), none, (.mv (.t 7))⟩,
    ⟨(some 53), none, (.mv (.t 10))⟩,
    ⟨(some 54), none, (.mv (.t 6))⟩,
    ⟨(some 55), none, (.call 165 [(.t 51), (.t 52), (.t 53), (.t 54)])⟩])))
  (.reg [] [⟨(some 31), none, (.mv (.t 10))⟩,
    ⟨(some 32), none, (.bin .sub (.t 31) (.k (.lit (.int .i64 1))))⟩,
    ⟨(some 10), none, (.mv (.t 32))⟩])))))))))), [], [], false⟩
theorem fo137 : compF Tryz.prog 137 = some ⟨fe137.N, fe137.xc.er, fe137.rs⟩ := by kernel_rfl
theorem ox137 : okX fe137.xc = true := by kernel_rfl
theorem hb137 : hasBody Tryz.prog 137 = true := by kernel_rfl
theorem fk137 : FEOK Tryz.prog 137 fe137 := ⟨fo137, ox137, hb137⟩

/-- slices.breakPatternsOrdered[int] -/
def fe138 : FE := ⟨65, (.seq (.reg [] [⟨(some 11), none, (.mv (.t 2))⟩,
    ⟨(some 12), none, (.mv (.t 1))⟩,
    ⟨(some 13), none, (.bin .sub (.t 11) (.t 12))⟩,
    ⟨(some 6), none, (.mv (.t 13))⟩])
  (.seq (.reg [] [⟨(some 14), none, (.mv (.t 6))⟩,
    ⟨(some 15), none, (.bin .geq (.t 14) (.k (.lit (.int .i64 8))))⟩])
  (.cond (.t 15) (.seq (.reg [] [⟨(some 16), none, (.mv (.t 6))⟩,
    ⟨(some 17), none, (.cv .u64 (.t 16))⟩,
    ⟨(some 7), none, (.new [(.lit (.int .u64 0))])⟩,
    ⟨none, none, (.st 1 (.t 7) (.t 17))⟩])
  (.seq (.reg [] [⟨(some 18), none, (.mv (.t 6))⟩,
    ⟨(some 19), none, (.call 166 [(.t 18)])⟩,
    ⟨(some 8), none, (.mv (.t 19))⟩])
  (.seq (.reg [] [⟨(some 20), none, (.mv (.t 1))⟩,
    ⟨(some 21), none, (.mv (.t 6))⟩,
    ⟨(some 22), none, (.bin .quo (.t 21) (.k (.lit (.int .i64 4))))⟩,
    ⟨(some 23), none, (.bin .mul (.t 22) (.k (.lit (.int .i64 2))))⟩,
    ⟨(some 24), none, (.bin .add (.t 20) (.t 23))⟩,
    ⟨(some 25), none, (.bin .sub (.t 24) (.k (.lit (.int .i64 1))))⟩,
    ⟨(some 9), none, (.mv (.t 25))⟩])
  (.block 0 (.loop (.seq (.seq (.reg [] [⟨(some 26), none, (.mv (.t 9))⟩,
    ⟨(some 27), none, (.mv (.t 1))⟩,
    ⟨(some 28), none, (.mv (.t 6))⟩,
    ⟨(some 29), none, (.bin .quo (.t 28) (.k (.lit (.int .i64 4))))⟩,
    ⟨(some 30), none, (.bin .mul (.t 29) (.k (.lit (.int .i64 2))))⟩,
    ⟨(some 31), none, (.bin .add (.t 27) (.t 30))⟩,
    ⟨(some 32), none, (.bin .add (.t 31) (.k (.lit (.int .i64 1))))⟩,
    ⟨(some 33), none, (.bin .leq (.t 26) (.t 32))⟩])
  (.cond (.t 33) .skip (.exit 0)))
  (.seq (.block 1 (.seq (.reg [] [⟨(some 36), none, (.call 167 [(.t 7)])⟩,
    ⟨(some 37), none, (.mv (.t 8))⟩,
    ⟨(some 38), none, (.bin .sub (.t 37) (.k (.lit (.int .u64 1))))⟩,
    ⟨(some 39), none, (.bin .and (.t 36) (.t 38))⟩,
    ⟨(some 40), none, (.cv .i64 (.t 39))⟩,
    ⟨(some 10), none, (.mv (.t 40))⟩])
  (.seq (.seq (.reg [] [⟨(some 41), none, (.mv (.t 10))⟩,
    ⟨(some 42), none, (.mv (.t 6))⟩,
    ⟨(some 43), none, (.bin .geq (.t 41) (.t 42))⟩])
  (.cond (.t 43) (.reg [] [⟨(some 44), none, (.mv (.t 10))⟩,
    ⟨(some 45), none, (.mv (.t 6))⟩,
    ⟨(some 46), none, (.bin .sub (.t 44) (.t 45))⟩,
    ⟨(some 10), none, (.mv (.t 46))⟩]) .skip))
  (.regd [] [[], [], [], [], [], [3, 4], [], [], [], [7, 8], [6, 9], [10], [], [], [12, 13], [14], [0, 1, 0, 1, 6, 7, 8, 9, 10, 11, 15], [16, 11, 0, 1, 6, 7, 8, 9, 10, 11, 15], [2, 5, 0, 1, 2, 3, 4, 5, 6, 7, 8, 9, 10, 11, 12, 13, 14, 15, 16, 17], [18, 15, 17, 0, 1, 2, 3, 4, 5, 6, 7, 8, 9, 10, 11, 12, 13, 14, 15, 16, 17]] [(⟨(some 47), none, (.mv (.t 0))⟩, ⟨[], none, false, false⟩),
    (⟨(some 48), none, (.mv (.t 9))⟩, ⟨[], none, false, false⟩),
    (⟨(some 49), none, (.mv (.t 0))⟩, ⟨[], none, false, false⟩),
    (⟨(some 50), none, (.mv (.t 1))⟩, ⟨[], none, false, false⟩),
    (⟨(some 51), none, (.mv (.t 10))⟩, ⟨[], none, false, false⟩),
    (⟨(some 52), none, (.bin .add (.t 50) (.t 51))⟩, ⟨[], none, false, false⟩),
    (⟨(some 53), none, (.mv (.t 0))⟩, ⟨[], none, false, false⟩),
    (⟨(some 54), none, (.mv (.t 1))⟩, ⟨[], none, false, false⟩),
    (⟨(some 55), none, (.mv (.t 10))⟩, ⟨[], none, false, false⟩),
    (⟨(some 56), none, (.bin .add (.t 54) (.t 55))⟩, ⟨[], none, false, false⟩),
    (⟨(some 57), none, (.iad 1 (.t 53) (.t 56))⟩, ⟨[], none, false, false⟩),
    (⟨(some 58), none, (.ld false 1 (.t 57))⟩, ⟨[], none, true, false⟩),
    (⟨(some 59), none, (.mv (.t 0))⟩, ⟨[], none, false, false⟩),
    (⟨(some 60), none, (.mv (.t 9))⟩, ⟨[], none, false, false⟩),
    (⟨(some 61), none, (.iad 1 (.t 59) (.t 60))⟩, ⟨[], none, false, false⟩),
    (⟨(some 62), none, (.ld false 1 (.t 61))⟩, ⟨[], none, true, false⟩),
    (⟨(some 63), none, (.iad 1 (.t 47) (.t 48))⟩, ⟨[], none, false, false⟩),
    (⟨none, none, (.st 1 (.t 63) (.t 58))⟩, ⟨[], none, true, true⟩),
    (⟨(some 64), none, (.iad 1 (.t 49) (.t 52))⟩, ⟨[], none, false, false⟩),
    (⟨none, none, (.st 1 (.t 64) (.t 62))⟩, ⟨[], none, true, true⟩)]))))
  (.reg [] [⟨(some 34), none, (.mv (.t 9))⟩,
    ⟨(some 35), none, (.bin .add (.t 34) (.k (.lit (.int .i64 1))))⟩,
    ⟨(some 9), none, (.mv (.t 35))⟩])))))))) .skip))), [], [7], false⟩
theorem fo138 : compF Tryz.prog 138 = some ⟨fe138.N, fe138.xc.er, fe138.rs⟩ := by kernel_rfl
theorem ox138 : okX fe138.xc = true := by kernel_rfl
theorem hb138 : hasBody Tryz.prog 138 = true := by kernel_rfl
theorem fk138 : FEOK Tryz.prog 138 fe138 := ⟨fo138, ox138, hb138⟩

/-- slices.choosePivotOrdered[int] -/
def fe139 : FE := ⟨57, (.seq (.reg [] [⟨(some 6), none, (.mv (.k (.lit (.int .i64 0))))⟩,
    ⟨(some 7), none, (.mv (.k (.lit (.int .i64 0))))⟩])
  (.seq (.reg [] [⟨(some 13), none, (.mv (.t 2))⟩,
    ⟨(some 14), none, (.mv (.t 1))⟩,
    ⟨(some 15), none, (.bin .sub (.t 13) (.t 14))⟩,
    ⟨(some 8), none, (.mv (.t 15))⟩])
  (.seq (.reg [] [⟨(some 9), none, (.new [(.lit (.int .i64 0))])⟩])
  (.seq (.reg [] [⟨(some 16), none, (.mv (.t 1))⟩,
    ⟨(some 17), none, (.mv (.t 8))⟩,
    ⟨(some 18), none, (.bin .quo (.t 17) (.k (.lit (.int .i64 4))))⟩,
    ⟨(some 19), none, (.bin .mul (.t 18) (.k (.lit (.int .i64 1))))⟩,
    ⟨(some 20), none, (.bin .add (.t 16) (.t 19))⟩,
    ⟨(some 10), none, (.mv (.t 20))⟩])
  (.seq (.reg [] [⟨(some 21), none, (.mv (.t 1))⟩,
    ⟨(some 22), none, (.mv (.t 8))⟩,
    ⟨(some 23), none, (.bin .quo (.t 22) (.k (.lit (.int .i64 4))))⟩,
    ⟨(some 24), none, (.bin .mul (.t 23) (.k (.lit (.int .i64 2))))⟩,
    ⟨(some 25), none, (.bin .add (.t 21) (.t 24))⟩,
    ⟨(some 11), none, (.mv (.t 25))⟩])
  (.seq (.reg [] [⟨(some 26), none, (.mv (.t 1))⟩,
    ⟨(some 27), none, (.mv (.t 8))⟩,
    ⟨(some 28), none, (.bin .quo (.t 27) (.k (.lit (.int .i64 4))))⟩,
    ⟨(some 29), none, (.bin .mul (.t 28) (.k (.lit (.int .i64 3))))⟩,
    ⟨(some 30), none, (.bin .add (.t 26) (.t 29))⟩,
    ⟨(some 12), none, (.mv (.t 30))⟩])
  (.seq (.seq (.reg [] [⟨(some 31), none, (.mv (.t 8))⟩,
    ⟨(some 32), none, (.bin .geq (.t 31) (.k (.lit (.int .i64 8))))⟩])
  (.cond (.t 32) (.seq (.seq (.reg [] [⟨(some 33), none, (.mv (.t 8))⟩,
    ⟨(some 34), none, (.bin .geq (.t 33) (.k (.lit (.int .i64 50))))⟩])
  (.cond (.t 34) (.seq (.reg [] [⟨(some 35), none, (.mv (.t 0))⟩,
    ⟨(some 36), none, (.mv (.t 10))⟩,
    ⟨(some 37), none, (.call 168 [(.t 35), (.t 36), (.t 9)])⟩,
    ⟨(some 10), none, (.mv (.t 37))⟩])
  (.seq (.reg [] [⟨(some 38), none, (.mv (.t 0))⟩,
    ⟨(some 39), none, (.mv (.t 11))⟩,
    ⟨(some 40), none, (.call 168 [(.t 38), (.t 39), (.t 9)])⟩,
    ⟨(some 11), none, (.mv (.t 40))⟩])
  (.reg [] [⟨(some 41), none, (.mv (.t 0))⟩,
    ⟨(some 42), none, (.mv (.t 12))⟩,
    ⟨(some 43), none, (.call 168 [(.t 41), (.t 42), (.t 9)])⟩,
    ⟨(some 12), none, (.mv (.t 43))⟩]))) .skip))
  (.reg [] [⟨(some 44), none, (.mv (.t 0))⟩,
    ⟨(some 45), none, (.mv (.t 10))⟩,
    ⟨(some 46), none, (.mv (.t 11))⟩,
    ⟨(some 47), none, (.mv (.t 12))⟩,
    ⟨(some 48), none, (.call 169 [(.t 44), (.t 45), (.t 46), (.t 47), (.t 9)])⟩,
    ⟨(some 11), none, (.mv (.t 48))⟩])) .skip))
  (.seq (.reg [] [⟨(some 49), none, (.ld false 1 (.t 9))⟩])
  (.block 0 (.seq (.reg [] [⟨(some 52), none, (.bin .eql (.t 49) (.k (.lit (.int .i64 0))))⟩,
    ⟨(some 51), none, (.mv (.t 52))⟩])
  (.cond (.t 51) (.seq (.reg [] [⟨(some 53), none, (.mv (.t 11))⟩,
    ⟨(some 6), none, (.mv (.t 53))⟩,
    ⟨(some 7), none, (.mv (.k (.lit (.int .i64 1))))⟩])
  .ret) (.seq (.reg [] [⟨(some 55), none, (.bin .eql (.t 49) (.k (.lit (.int .i64 12))))⟩,
    ⟨(some 54), none, (.mv (.t 55))⟩])
  (.cond (.t 54) (.seq (.reg [] [⟨(some 56), none, (.mv (.t 11))⟩,
    ⟨(some 6), none, (.mv (.t 56))⟩,
    ⟨(some 7), none, (.mv (.k (.lit (.int .i64 2))))⟩])
  .ret) (.seq (.reg [] [⟨(some 50), none, (.mv (.t 11))⟩,
    ⟨(some 6), none, (.mv (.t 50))⟩,
    ⟨(some 7), none, (.mv (.k (.lit (.int .i64 0))))⟩])
  .ret)))))))))))))), [(.tmp 6), (.tmp 7)], [9], false⟩
theorem fo139 : compF Tryz.prog 139 = some ⟨fe139.N, fe139.xc.er, fe139.rs⟩ := by kernel_rfl
theorem ox139 : okX fe139.xc = true := by kernel_rfl
theorem hb139 : hasBody Tryz.prog 139 = true := by kernel_rfl
theorem fk139 : FEOK Tryz.prog 139 fe139 := ⟨fo139, ox139, hb139⟩

end Iso
