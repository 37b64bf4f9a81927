import Derived.Test.YtlgejmkkehfllaaGreatZ11
import Derived.Test.YtlgejmkkehfllaaGreatProg
/- The code of functions, as the runner wants it. -/
namespace Iso
open Go Go.Proofs

/-- slices.reverseRangeOrdered[int] -/
def fe140 : FE := ⟨32, (.seq (.reg [] [⟨(some 8), none, (.mv (.t 1))⟩,
    ⟨(some 6), none, (.mv (.t 8))⟩])
  (.seq (.reg [] [⟨(some 9), none, (.mv (.t 2))⟩,
    ⟨(some 10), none, (.bin .sub (.t 9) (.k (.lit (.int .i64 1))))⟩,
    ⟨(some 7), none, (.mv (.t 10))⟩])
  (.block 0 (.loop (.seq (.seq (.reg [] [⟨(some 11), none, (.mv (.t 6))⟩,
    ⟨(some 12), none, (.mv (.t 7))⟩,
    ⟨(some 13), none, (.bin .lss (.t 11) (.t 12))⟩])
  (.cond (.t 13) .skip (.exit 0)))
  (.block 1 (.seq (.regd [] [[], [], [], [], [], [], [4, 5], [6], [], [], [8, 9], [10], [0, 1, 0, 1, 4, 5, 6, 7, 11], [12, 7, 0, 1, 4, 5, 6, 7, 11], [2, 3, 0, 1, 2, 3, 4, 5, 6, 7, 8, 9, 10, 11, 12, 13], [14, 11, 13, 0, 1, 2, 3, 4, 5, 6, 7, 8, 9, 10, 11, 12, 13]] [(⟨(some 14), none, (.mv (.t 0))⟩, ⟨[], none, false, false⟩),
    (⟨(some 15), none, (.mv (.t 6))⟩, ⟨[], none, false, false⟩),
    (⟨(some 16), none, (.mv (.t 0))⟩, ⟨[], none, false, false⟩),
    (⟨(some 17), none, (.mv (.t 7))⟩, ⟨[], none, false, false⟩),
    (⟨(some 18), none, (.mv (.t 0))⟩, ⟨[], none, false, false⟩),
    (⟨(some 19), none, (.mv (.t 7))⟩, ⟨[], none, false, false⟩),
    (⟨(some 20), none, (.iad 1 (.t 18) (.t 19))⟩, ⟨[], none, false, false⟩),
    (⟨(some 21), none, (.ld false 1 (.t 20))⟩, ⟨[], none, true, false⟩),
    (⟨(some 22), none, (.mv (.t 0))⟩, ⟨[], none, false, false⟩),
    (⟨(some 23), none, (.mv (.t 6))⟩, ⟨[], none, false, false⟩),
    (⟨(some 24), none, (.iad 1 (.t 22) (.t 23))⟩, ⟨[], none, false, false⟩),
    (⟨(some 25), none, (.ld false 1 (.t 24))⟩, ⟨[], none, true, false⟩),
    (⟨(some 26), none, (.iad 1 (.t 14) (.t 15))⟩, ⟨[], none, false, false⟩),
    (⟨none, none, (.st 1 (.t 26) (.t 21))⟩, ⟨[], none, true, true⟩),
    (⟨(some 27), none, (.iad 1 (.t 16) (.t 17))⟩, ⟨[], none, false, false⟩),
    (⟨none, none, (.st 1 (.t 27) (.t 25))⟩, ⟨[], none, true, true⟩)])
  (.seq (.reg [] [⟨(some 28), none, (.mv (.t 6))⟩,
    ⟨(some 29), none, (.bin .add (.t 28) (.k (.lit (.int .i64 1))))⟩,
    ⟨(some 6), none, (.mv (.t 29))⟩])
  (.reg [] [⟨(some 30), none, (.mv (.t 7))⟩,
    ⟨(some 31), none, (.bin .sub (.t 30) (.k (.lit (.int .i64 1))))⟩,
    ⟨(some 7), none, (.mv (.t 31))⟩]))))))))), [], [], false⟩
theorem fo140 : compF Tryz.prog 140 = some ⟨fe140.N, fe140.xc.er, fe140.rs⟩ := by kernel_rfl
theorem ox140 : okX fe140.xc = true := by kernel_rfl
theorem hb140 : hasBody Tryz.prog 140 = true := by kernel_rfl
theorem fk140 : FEOK Tryz.prog 140 fe140 := ⟨fo140, ox140, hb140⟩

/-- slices.partialInsertionSortOrdered[int] -/
def fe141 : FE := ⟨133, (.seq (.reg [] [⟨(some 6), none, (.mv (.k (.lit (.bool false))))⟩])
  (.seq (.reg [] [⟨(some 11), none, (.mv (.t 1))⟩,
    ⟨(some 12), none, (.bin .add (.t 11) (.k (.lit (.int .i64 1))))⟩,
    ⟨(some 7), none, (.mv (.t 12))⟩])
  (.seq (.seq (.reg [] [⟨(some 8), none, (.mv (.k (.lit (.int .i64 0))))⟩])
  (.block 0 (.loop (.seq (.seq (.reg [] [⟨(some 13), none, (.mv (.t 8))⟩,
    ⟨(some 14), none, (.bin .lss (.t 13) (.k (.lit (.int .i64 5))))⟩])
  (.cond (.t 14) .skip (.exit 0)))
  (.seq (.block 1 (.seq (.block 2 (.loop (.seq (.seq (.regd [] [[], [], [0, 1], [2], [3], [3], [4, 5, 3], [6, 3], [3], [3], [9, 3], [8, 10, 3], [11, 3], [7, 12, 3, 3], [13, 3], [3, 14]] [(⟨(some 17), none, (.mv (.t 7))⟩, ⟨[], none, false, false⟩),
    (⟨(some 18), none, (.mv (.t 2))⟩, ⟨[], none, false, false⟩),
    (⟨(some 19), none, (.bin .lss (.t 17) (.t 18))⟩, ⟨[], none, false, false⟩),
    (⟨(some 20), none, (.mv (.t 19))⟩, ⟨[], none, false, false⟩),
    (⟨(some 21), (some (20, true)), (.mv (.t 0))⟩, ⟨[], none, false, false⟩),
    (⟨(some 22), (some (20, true)), (.mv (.t 7))⟩, ⟨[], none, false, false⟩),
    (⟨(some 23), (some (20, true)), (.iad 1 (.t 21) (.t 22))⟩, ⟨[], none, false, false⟩),
    (⟨(some 24), (some (20, true)), (.ld false 1 (.t 23))⟩, ⟨[], none, true, false⟩),
    (⟨(some 25), (some (20, true)), (.mv (.t 0))⟩, ⟨[], none, false, false⟩),
    (⟨(some 26), (some (20, true)), (.mv (.t 7))⟩, ⟨[], none, false, false⟩),
    (⟨(some 27), (some (20, true)), (.bin .sub (.t 26) (.k (.lit (.int .i64 1))))⟩, ⟨[], none, false, false⟩),
    (⟨(some 28), (some (20, true)), (.iad 1 (.t 25) (.t 27))⟩, ⟨[], none, false, false⟩),
    (⟨(some 29), (some (20, true)), (.ld false 1 (.t 28))⟩, ⟨[], none, true, false⟩),
    (⟨(some 30), (some (20, true)), (.call 142 [(.t 24), (.t 29)])⟩, ⟨[], none, true, false⟩),
    (⟨(some 31), (some (20, true)), (.un .not (.t 30))⟩, ⟨[], none, false, false⟩),
    (⟨(some 32), none, (.pick (.t 20) (.t 31) (.k (.lit (.bool false))))⟩, ⟨[], none, false, false⟩)])
  (.cond (.t 32) .skip (.exit 2)))
  (.block 3 (.reg [] [⟨(some 33), none, (.mv (.t 7))⟩,
    ⟨(some 34), none, (.bin .add (.t 33) (.k (.lit (.int .i64 1))))⟩,
    ⟨(some 7), none, (.mv (.t 34))⟩])))))
  (.seq (.seq (.reg [] [⟨(some 35), none, (.mv (.t 7))⟩,
    ⟨(some 36), none, (.mv (.t 2))⟩,
    ⟨(some 37), none, (.bin .eql (.t 35) (.t 36))⟩])
  (.cond (.t 37) (.seq (.reg [] [⟨(some 6), none, (.mv (.k (.lit (.bool true))))⟩])
  .ret) .skip))
  (.seq (.seq (.reg [] [⟨(some 38), none, (.mv (.t 2))⟩,
    ⟨(some 39), none, (.mv (.t 1))⟩,
    ⟨(some 40), none, (.bin .sub (.t 38) (.t 39))⟩,
    ⟨(some 41), none, (.bin .lss (.t 40) (.k (.lit (.int .i64 50))))⟩])
  (.cond (.t 41) (.seq (.reg [] [⟨(some 6), none, (.mv (.k (.lit (.bool false))))⟩])
  .ret) .skip))
  (.seq (.regd [] [[], [], [], [], [3], [], [], [6], [5, 7], [8], [], [], [10, 11], [12], [0, 1, 0, 1, 5, 6, 7, 8, 9, 13], [14, 9, 0, 1, 5, 6, 7, 8, 9, 13], [2, 4, 0, 1, 2, 3, 4, 5, 6, 7, 8, 9, 10, 11, 12, 13, 14, 15], [16, 13, 15, 0, 1, 2, 3, 4, 5, 6, 7, 8, 9, 10, 11, 12, 13, 14, 15]] [(⟨(some 42), none, (.mv (.t 0))⟩, ⟨[], none, false, false⟩),
    (⟨(some 43), none, (.mv (.t 7))⟩, ⟨[], none, false, false⟩),
    (⟨(some 44), none, (.mv (.t 0))⟩, ⟨[], none, false, false⟩),
    (⟨(some 45), none, (.mv (.t 7))⟩, ⟨[], none, false, false⟩),
    (⟨(some 46), none, (.bin .sub (.t 45) (.k (.lit (.int .i64 1))))⟩, ⟨[], none, false, false⟩),
    (⟨(some 47), none, (.mv (.t 0))⟩, ⟨[], none, false, false⟩),
    (⟨(some 48), none, (.mv (.t 7))⟩, ⟨[], none, false, false⟩),
    (⟨(some 49), none, (.bin .sub (.t 48) (.k (.lit (.int .i64 1))))⟩, ⟨[], none, false, false⟩),
    (⟨(some 50), none, (.iad 1 (.t 47) (.t 49))⟩, ⟨[], none, false, false⟩),
    (⟨(some 51), none, (.ld false 1 (.t 50))⟩, ⟨[], none, true, false⟩),
    (⟨(some 52), none, (.mv (.t 0))⟩, ⟨[], none, false, false⟩),
    (⟨(some 53), none, (.mv (.t 7))⟩, ⟨[], none, false, false⟩),
    (⟨(some 54), none, (.iad 1 (.t 52) (.t 53))⟩, ⟨[], none, false, false⟩),
    (⟨(some 55), none, (.ld false 1 (.t 54))⟩, ⟨[], none, true, false⟩),
    (⟨(some 56), none, (.iad 1 (.t 42) (.t 43))⟩, ⟨[], none, false, false⟩),
    (⟨none, none, (.st 1 (.t 56) (.t 51))⟩, ⟨[], none, true, true⟩),
    (⟨(some 57), none, (.iad 1 (.t 44) (.t 46))⟩, ⟨[], none, false, false⟩),
    (⟨none, none, (.st 1 (.t 57) (.t 55))⟩, ⟨[], none, true, true⟩)])
  (.seq (.seq (.reg [] [⟨(some 58), none, (.mv (.t 7))⟩,
    ⟨(some 59), none, (.mv (.t 1))⟩,
    ⟨(some 60), none, (.bin .sub (.t 58) (.t 59))⟩,
    ⟨(some 61), none, (.bin .geq (.t 60) (.k (.lit (.int .i64 2))))⟩])
  (.cond (.t 61) (.seq (.reg [] [⟨(some 62), none, (.mv (.t 7))⟩,
    ⟨(some 63), none, (.bin .sub (.t 62) (.k (.lit (.int .i64 1))))⟩,
    ⟨(some 9), none, (.mv (.t 63))⟩])
  (.block 4 (.loop (.seq (.seq (.reg [] [⟨(some 64), none, (.mv (.t 9))⟩,
    ⟨(some 65), none, (.bin .geq (.t 64) (.k (.lit (.int .i64 1))))⟩])
  (.cond (.t 65) .skip (.exit 4)))
  (.seq (.block 5 (.seq (.seq (.regd [] [[], [], [0, 1], [2], [], [], [5], [4, 6], [7], [3, 8], [9]] [(⟨(some 68), none, (.mv (.t 0))⟩, ⟨[], none, false, false⟩),
    (⟨(some 69), none, (.mv (.t 9))⟩, ⟨[], none, false, false⟩),
    (⟨(some 70), none, (.iad 1 (.t 68) (.t 69))⟩, ⟨[], none, false, false⟩),
    (⟨(some 71), none, (.ld false 1 (.t 70))⟩, ⟨[], none, true, false⟩),
    (⟨(some 72), none, (.mv (.t 0))⟩, ⟨[], none, false, false⟩),
    (⟨(some 73), none, (.mv (.t 9))⟩, ⟨[], none, false, false⟩),
    (⟨(some 74), none, (.bin .sub (.t 73) (.k (.lit (.int .i64 1))))⟩, ⟨[], none, false, false⟩),
    (⟨(some 75), none, (.iad 1 (.t 72) (.t 74))⟩, ⟨[], none, false, false⟩),
    (⟨(some 76), none, (.ld false 1 (.t 75))⟩, ⟨[], none, true, false⟩),
    (⟨(some 77), none, (.call 142 [(.t 71), (.t 76)])⟩, ⟨[], none, true, false⟩),
    (⟨(some 78), none, (.un .not (.t 77))⟩, ⟨[], none, false, false⟩)])
  (.cond (.t 78) (.exit 4) .skip))
  (.regd [] [[], [], [], [], [3], [], [], [6], [5, 7], [8], [], [], [10, 11], [12], [0, 1, 0, 1, 5, 6, 7, 8, 9, 13], [14, 9, 0, 1, 5, 6, 7, 8, 9, 13], [2, 4, 0, 1, 2, 3, 4, 5, 6, 7, 8, 9, 10, 11, 12, 13, 14, 15], [16, 13, 15, 0, 1, 2, 3, 4, 5, 6, 7, 8, 9, 10, 11, 12, 13, 14, 15]] [(⟨(some 79), none, (.mv (.t 0))⟩, ⟨[], none, false, false⟩),
    (⟨(some 80), none, (.mv (.t 9))⟩, ⟨[], none, false, false⟩),
    (⟨(some 81), none, (.mv (.t 0))⟩, ⟨[], none, false, false⟩),
    (⟨(some 82), none, (.mv (.t 9))⟩, ⟨[], none, false, false⟩),
    (⟨(some 83), none, (.bin .sub (.t 82) (.k (.lit (.int .i64 1))))⟩, ⟨[], none, false, false⟩),
    (⟨(some 84), none, (.mv (.t 0))⟩, ⟨[], none, false, false⟩),
    (⟨(some 85), none, (.mv (.t 9))⟩, ⟨[], none, false, false⟩),
    (⟨(some 86), none, (.bin .sub (.t 85) (.k (.lit (.int .i64 1))))⟩, ⟨[], none, false, false⟩),
    (⟨(some 87), none, (.iad 1 (.t 84) (.t 86))⟩, ⟨[], none, false, false⟩),
    (⟨(some 88), none, (.ld false 1 (.t 87))⟩, ⟨[], none, true, false⟩),
    (⟨(some 89), none, (.mv (.t 0))⟩, ⟨[], none, false, false⟩),
    (⟨(some 90), none, (.mv (.t 9))⟩, ⟨[], none, false, false⟩),
    (⟨(some 91), none, (.iad 1 (.t 89) (.t 90))⟩, ⟨[], none, false, false⟩),
    (⟨(some 92), none, (.ld false 1 (.t 91))⟩, ⟨[], none, true, false⟩),
    (⟨(some 93), none, (.iad 1 (.t 79) (.t 80))⟩, ⟨[], none, false, false⟩),
    (⟨none, none, (.st 1 (.t 93) (.t 88))⟩, ⟨[], none, true, true⟩),
    (⟨(some 94), none, (.iad 1 (.t 81) (.t 83))⟩, ⟨[], none, false, false⟩),
    (⟨none, none, (.st 1 (.t 94) (.t 92))⟩, ⟨[], none, true, true⟩)])))
  (.reg [] [⟨(some 66), none, (.mv (.t 9))⟩,
    ⟨(some 67), none, (.bin .sub (.t 66) (.k (.lit (.int .i64 1))))⟩,
    ⟨(some 9), none, (.mv (.t 67))⟩])))))) .skip))
  (.seq (.reg [] [⟨(some 95), none, (.mv (.t 2))⟩,
    ⟨(some 96), none, (.mv (.t 7))⟩,
    ⟨(some 97), none, (.bin .sub (.t 95) (.t 96))⟩,
    ⟨(some 98), none, (.bin .geq (.t 97) (.k (.lit (.int .i64 2))))⟩])
  (.cond (.t 98) (.seq (.reg [] [⟨(some 99), none, (.mv (.t 7))⟩,
    ⟨(some 100), none, (.bin .add (.t 99) (.k (.lit (.int .i64 1))))⟩,
    ⟨(some 10), none, (.mv (.t 100))⟩])
  (.block 6 (.loop (.seq (.seq (.reg [] [⟨(some 101), none, (.mv (.t 10))⟩,
    ⟨(some 102), none, (.mv (.t 2))⟩,
    ⟨(some 103), none, (.bin .lss (.t 101) (.t 102))⟩])
  (.cond (.t 103) .skip (.exit 6)))
  (.seq (.block 7 (.seq (.seq (.regd [] [[], [], [0, 1], [2], [], [], [5], [4, 6], [7], [3, 8], [9]] [(⟨(some 106), none, (.mv (.t 0))⟩, ⟨[], none, false, false⟩),
    (⟨(some 107), none, (.mv (.t 10))⟩, ⟨[], none, false, false⟩),
    (⟨(some 108), none, (.iad 1 (.t 106) (.t 107))⟩, ⟨[], none, false, false⟩),
    (⟨(some 109), none, (.ld false 1 (.t 108))⟩, ⟨[], none, true, false⟩),
    (⟨(some 110), none, (.mv (.t 0))⟩, ⟨[], none, false, false⟩),
    (⟨(some 111), none, (.mv (.t 10))⟩, ⟨[], none, false, false⟩),
    (⟨(some 112), none, (.bin .sub (.t 111) (.k (.lit (.int .i64 1))))⟩, ⟨[], none, false, false⟩),
    (⟨(some 113), none, (.iad 1 (.t 110) (.t 112))⟩, ⟨[], none, false, false⟩),
    (⟨(some 114), none, (.ld false 1 (.t 113))⟩, ⟨[], none, true, false⟩),
    (⟨(some 115), none, (.call 142 [(.t 109), (.t 114)])⟩, ⟨[], none, true, false⟩),
    (⟨(some 116), none, (.un .not (.t 115))⟩, ⟨[], none, false, false⟩)])
  (.cond (.t 116) (.exit 6) .skip))
  (.regd [] [[], [], [], [], [3], [], [], [6], [5, 7], [8], [], [], [10, 11], [12], [0, 1, 0, 1, 5, 6, 7, 8, 9, 13], [14, 9, 0, 1, 5, 6, 7, 8, 9, 13], [2, 4, 0, 1, 2, 3, 4, 5, 6, 7, 8, 9, 10, 11, 12, 13, 14, 15], [16, 13, 15, 0, 1, 2, 3, 4, 5, 6, 7, 8, 9, 10, 11, 12, 13, 14, 15]] [(⟨(some 117), none, (.mv (.t 0))⟩, ⟨[], none, false, false⟩),
    (⟨(some 118), none, (.mv (.t 10))⟩, ⟨[], none, false, false⟩),
    (⟨(some 119), none, (.mv (.t 0))⟩, ⟨[], none, false, false⟩),
    (⟨(some 120), none, (.mv (.t 10))⟩, ⟨[], none, false, false⟩),
    (⟨(some 121), none, (.bin .sub (.t 120) (.k (.lit (.int .i64 1))))⟩, ⟨[], none, false, false⟩),
    (⟨(some 122), none, (.mv (.t 0))⟩, ⟨[], none, false, false⟩),
    (⟨(some 123), none, (.mv (.t 10))⟩, ⟨[], none, false, false⟩),
    (⟨(some 124), none, (.bin .sub (.t 123) (.k (.lit (.int .i64 1))))⟩, ⟨[], none, false, false⟩),
    (⟨(some 125), none, (.iad 1 (.t 122) (.t 124))⟩, ⟨[], none, false, false⟩),
    (⟨(some 126), none, (.ld false 1 (.t 125))⟩, ⟨[], none, true, false⟩),
    (⟨(some 127), none, (.mv (.t 0))⟩, ⟨[], none, false, false⟩),
    (⟨(some 128), none, (.mv (.t 10))⟩, ⟨[], none, false, false⟩),
    (⟨(some 129), none, (.iad 1 (.t 127) (.t 128))⟩, ⟨[], none, false, false⟩),
    (⟨(some 130), none, (.ld false 1 (.t 129))⟩, ⟨[], none, true, false⟩),
    (⟨(some 131), none, (.iad 1 (.t 117) (.t 118))⟩, ⟨[], none, false, false⟩),
    (⟨none, none, (.st 1 (.t 131) (.t 126))⟩, ⟨[], none, true, true⟩),
    (⟨(some 132), none, (.iad 1 (.t 119) (.t 121))⟩, ⟨[], none, false, false⟩),
    (⟨none, none, (.st 1 (.t 132) (.t 130))⟩, ⟨[], none, true, true⟩)])))
  (.reg [] [⟨(some 104), none, (.mv (.t 10))⟩,
    ⟨(some 105), none, (.bin .add (.t 104) (.k (.lit (.int .i64 1))))⟩,
    ⟨(some 10), none, (.mv (.t 105))⟩])))))) .skip))))))))
  (.reg [] [⟨(some 15), none, (.mv (.t 8))⟩,
    ⟨(some 16), none, (.bin .add (.t 15) (.k (.lit (.int .i64 1))))⟩,
    ⟨(some 8), none, (.mv (.t 16))⟩]))))))
  (.seq (.reg [] [⟨(some 6), none, (.mv (.k (.lit (.bool false))))⟩])
  .ret)))), [(.tmp 6)], [], false⟩
theorem fo141 : compF Tryz.prog 141 = some ⟨fe141.N, fe141.xc.er, fe141.rs⟩ := by kernel_rfl
theorem ox141 : okX fe141.xc = true := by kernel_rfl
theorem hb141 : hasBody Tryz.prog 141 = true := by kernel_rfl
theorem fk141 : FEOK Tryz.prog 141 fe141 := ⟨fo141, ox141, hb141⟩

/-- cmp.Less[int] -/
def fe142 : FE := ⟨17, (.seq (.reg [] [⟨(some 4), none, (.mv (.k (.lit (.bool false))))⟩])
  (.seq (.reg [] [⟨(some 5), none, (.mv (.t 0))⟩,
    ⟨(some 6), none, (.call 170 [(.t 5)])⟩,
    ⟨(some 7), none, (.mv (.t 6))⟩,
    ⟨(some 8), (some (7, true)), (.mv (.t 1))⟩,
    ⟨(some 9), (some (7, true)), (.call 170 [(.t 8)])⟩,
    ⟨(some 10), (some (7, true)), (.un .not (.t 9))⟩,
    ⟨(some 11), none, (.pick (.t 7) (.t 10) (.k (.lit (.bool false))))⟩,
    ⟨(some 12), none, (.mv (.t 11))⟩,
    ⟨(some 13), (some (12, false)), (.mv (.t 0))⟩,
    ⟨(some 14), (some (12, false)), (.mv (.t 1))⟩,
    ⟨(some 15), (some (12, false)), (.bin .lss (.t 13) (.t 14))⟩,
    ⟨(some 16), none, (.pick (.t 12) (.k (.lit (.bool true))) (.t 15))⟩,
    ⟨(some 4), none, (.mv (.t 16))⟩])
  .ret)), [(.tmp 4)], [], true⟩
theorem fo142 : compF Tryz.prog 142 = some ⟨fe142.N, fe142.xc.er, fe142.rs⟩ := by kernel_rfl
theorem ox142 : okX fe142.xc = true := by kernel_rfl
theorem hb142 : hasBody Tryz.prog 142 = true := by kernel_rfl
theorem fk142 : FEOK Tryz.prog 142 fe142 := ⟨fo142, ox142, hb142⟩

/-- slices.partitionEqualOrdered[int] -/
def fe143 : FE := ⟨84, (.seq (.reg [] [⟨(some 8), none, (.mv (.k (.lit (.int .i64 0))))⟩])
  (.seq (.regd [] [[], [], [], [], [], [], [4, 5], [6], [], [], [8, 9], [10], [0, 1, 0, 1, 4, 5, 6, 7, 11], [12, 7, 0, 1, 4, 5, 6, 7, 11], [2, 3, 0, 1, 2, 3, 4, 5, 6, 7, 8, 9, 10, 11, 12, 13], [14, 11, 13, 0, 1, 2, 3, 4, 5, 6, 7, 8, 9, 10, 11, 12, 13]] [(⟨(some 11), none, (.mv (.t 0))⟩, ⟨[], none, false, false⟩),
    (⟨(some 12), none, (.mv (.t 1))⟩, ⟨[], none, false, false⟩),
    (⟨(some 13), none, (.mv (.t 0))⟩, ⟨[], none, false, false⟩),
    (⟨(some 14), none, (.mv (.t 3))⟩, ⟨[], none, false, false⟩),
    (⟨(some 15), none, (.mv (.t 0))⟩, ⟨[], none, false, false⟩),
    (⟨(some 16), none, (.mv (.t 3))⟩, ⟨[], none, false, false⟩),
    (⟨(some 17), none, (.iad 1 (.t 15) (.t 16))⟩, ⟨[], none, false, false⟩),
    (⟨(some 18), none, (.ld false 1 (.t 17))⟩, ⟨[], none, true, false⟩),
    (⟨(some 19), none, (.mv (.t 0))⟩, ⟨[], none, false, false⟩),
    (⟨(some 20), none, (.mv (.t 1))⟩, ⟨[], none, false, false⟩),
    (⟨(some 21), none, (.iad 1 (.t 19) (.t 20))⟩, ⟨[], none, false, false⟩),
    (⟨(some 22), none, (.ld false 1 (.t 21))⟩, ⟨[], none, true, false⟩),
    (⟨(some 23), none, (.iad 1 (.t 11) (.t 12))⟩, ⟨[], none, false, false⟩),
    (⟨none, none, (.st 1 (.t 23) (.t 18))⟩, ⟨[], none, true, true⟩),
    (⟨(some 24), none, (.iad 1 (.t 13) (.t 14))⟩, ⟨[], none, false, false⟩),
    (⟨none, none, (.st 1 (.t 24) (.t 22))⟩, ⟨[], none, true, true⟩)])
  (.seq (.reg [] [⟨(some 25), none, (.mv (.t 1))⟩,
    ⟨(some 26), none, (.bin .add (.t 25) (.k (.lit (.int .i64 1))))⟩,
    ⟨(some 27), none, (.mv (.t 2))⟩,
    ⟨(some 28), none, (.bin .sub (.t 27) (.k (.lit (.int .i64 1))))⟩,
    ⟨(some 9), none, (.mv (.t 26))⟩,
    ⟨(some 10), none, (.mv (.t 28))⟩])
  (.seq (.block 0 (.loop (.block 1 (.seq (.block 2 (.loop (.seq (.seq (.regd [] [[], [], [0, 1], [2], [3], [3], [4, 5, 3], [6, 3], [3], [3], [8, 9, 3], [10, 3], [7, 11, 3, 3], [12, 3], [3, 13]] [(⟨(some 29), none, (.mv (.t 9))⟩, ⟨[], none, false, false⟩),
    (⟨(some 30), none, (.mv (.t 10))⟩, ⟨[], none, false, false⟩),
    (⟨(some 31), none, (.bin .leq (.t 29) (.t 30))⟩, ⟨[], none, false, false⟩),
    (⟨(some 32), none, (.mv (.t 31))⟩, ⟨[], none, false, false⟩),
    (⟨(some 33), (some (32, true)), (.mv (.t 0))⟩, ⟨[], none, false, false⟩),
    (⟨(some 34), (some (32, true)), (.mv (.t 1))⟩, ⟨[], none, false, false⟩),
    (⟨(some 35), (some (32, true)), (.iad 1 (.t 33) (.t 34))⟩, ⟨[], none, false, false⟩),
    (⟨(some 36), (some (32, true)), (.ld false 1 (.t 35))⟩, ⟨[], none, true, false⟩),
    (⟨(some 37), (some (32, true)), (.mv (.t 0))⟩, ⟨[], none, false, false⟩),
    (⟨(some 38), (some (32, true)), (.mv (.t 9))⟩, ⟨[], none, false, false⟩),
    (⟨(some 39), (some (32, true)), (.iad 1 (.t 37) (.t 38))⟩, ⟨[], none, false, false⟩),
    (⟨(some 40), (some (32, true)), (.ld false 1 (.t 39))⟩, ⟨[], none, true, false⟩),
    (⟨(some 41), (some (32, true)), (.call 142 [(.t 36), (.t 40)])⟩, ⟨[], none, true, false⟩),
    (⟨(some 42), (some (32, true)), (.un .not (.t 41))⟩, ⟨[], none, false, false⟩),
    (⟨(some 43), none, (.pick (.t 32) (.t 42) (.k (.lit (.bool false))))⟩, ⟨[], none, false, false⟩)])
  (.cond (.t 43) .skip (.exit 2)))
  (.block 3 (.reg [] [⟨(some 44), none, (.mv (.t 9))⟩,
    ⟨(some 45), none, (.bin .add (.t 44) (.k (.lit (.int .i64 1))))⟩,
    ⟨(some 9), none, (.mv (.t 45))⟩])))))
  (.seq (.block 4 (.loop (.seq (.seq (.regd [] [[], [], [0, 1], [2], [3], [3], [4, 5, 3], [6, 3], [3], [3], [8, 9, 3], [10, 3], [7, 11, 3, 3], [3, 12]] [(⟨(some 46), none, (.mv (.t 9))⟩, ⟨[], none, false, false⟩),
    (⟨(some 47), none, (.mv (.t 10))⟩, ⟨[], none, false, false⟩),
    (⟨(some 48), none, (.bin .leq (.t 46) (.t 47))⟩, ⟨[], none, false, false⟩),
    (⟨(some 49), none, (.mv (.t 48))⟩, ⟨[], none, false, false⟩),
    (⟨(some 50), (some (49, true)), (.mv (.t 0))⟩, ⟨[], none, false, false⟩),
    (⟨(some 51), (some (49, true)), (.mv (.t 1))⟩, ⟨[], none, false, false⟩),
    (⟨(some 52), (some (49, true)), (.iad 1 (.t 50) (.t 51))⟩, ⟨[], none, false, false⟩),
    (⟨(some 53), (some (49, true)), (.ld false 1 (.t 52))⟩, ⟨[], none, true, false⟩),
    (⟨(some 54), (some (49, true)), (.mv (.t 0))⟩, ⟨[], none, false, false⟩),
    (⟨(some 55), (some (49, true)), (.mv (.t 10))⟩, ⟨[], none, false, false⟩),
    (⟨(some 56), (some (49, true)), (.iad 1 (.t 54) (.t 55))⟩, ⟨[], none, false, false⟩),
    (⟨(some 57), (some (49, true)), (.ld false 1 (.t 56))⟩, ⟨[], none, true, false⟩),
    (⟨(some 58), (some (49, true)), (.call 142 [(.t 53), (.t 57)])⟩, ⟨[], none, true, false⟩),
    (⟨(some 59), none, (.pick (.t 49) (.t 58) (.k (.lit (.bool false))))⟩, ⟨[], none, false, false⟩)])
  (.cond (.t 59) .skip (.exit 4)))
  (.block 5 (.reg [] [⟨(some 60), none, (.mv (.t 10))⟩,
    ⟨(some 61), none, (.bin .sub (.t 60) (.k (.lit (.int .i64 1))))⟩,
    ⟨(some 10), none, (.mv (.t 61))⟩])))))
  (.seq (.seq (.reg [] [⟨(some 62), none, (.mv (.t 9))⟩,
    ⟨(some 63), none, (.mv (.t 10))⟩,
    ⟨(some 64), none, (.bin .gtr (.t 62) (.t 63))⟩])
  (.cond (.t 64) (.exit 0) .skip))
  (.seq (.regd [] [[], [], [], [], [], [], [4, 5], [6], [], [], [8, 9], [10], [0, 1, 0, 1, 4, 5, 6, 7, 11], [12, 7, 0, 1, 4, 5, 6, 7, 11], [2, 3, 0, 1, 2, 3, 4, 5, 6, 7, 8, 9, 10, 11, 12, 13], [14, 11, 13, 0, 1, 2, 3, 4, 5, 6, 7, 8, 9, 10, 11, 12, 13]] [(⟨(some 65), none, (.mv (.t 0))⟩, ⟨[], none, false, false⟩),
    (⟨(some 66), none, (.mv (.t 9))⟩, ⟨[], none, false, false⟩),
    (⟨(some 67), none, (.mv (.t 0))⟩, ⟨[], none, false, false⟩),
    (⟨(some 68), none, (.mv (.t 10))⟩, ⟨[], none, false, false⟩),
    (⟨(some 69), none, (.mv (.t 0))⟩, ⟨[], none, false, false⟩),
    (⟨(some 70), none, (.mv (.t 10))⟩, ⟨[], none, false, false⟩),
    (⟨(some 71), none, (.iad 1 (.t 69) (.t 70))⟩, ⟨[], none, false, false⟩),
    (⟨(some 72), none, (.ld false 1 (.t 71))⟩, ⟨[], none, true, false⟩),
    (⟨(some 73), none, (.mv (.t 0))⟩, ⟨[], none, false, false⟩),
    (⟨(some 74), none, (.mv (.t 9))⟩, ⟨[], none, false, false⟩),
    (⟨(some 75), none, (.iad 1 (.t 73) (.t 74))⟩, ⟨[], none, false, false⟩),
    (⟨(some 76), none, (.ld false 1 (.t 75))⟩, ⟨[], none, true, false⟩),
    (⟨(some 77), none, (.iad 1 (.t 65) (.t 66))⟩, ⟨[], none, false, false⟩),
    (⟨none, none, (.st 1 (.t 77) (.t 72))⟩, ⟨[], none, true, true⟩),
    (⟨(some 78), none, (.iad 1 (.t 67) (.t 68))⟩, ⟨[], none, false, false⟩),
    (⟨none, none, (.st 1 (.t 78) (.t 76))⟩, ⟨[], none, true, true⟩)])
  (.seq (.reg [] [⟨(some 79), none, (.mv (.t 9))⟩,
    ⟨(some 80), none, (.bin .add (.t 79) (.k (.lit (.int .i64 1))))⟩,
    ⟨(some 9), none, (.mv (.t 80))⟩])
  (.reg [] [⟨(some 81), none, (.mv (.t 10))⟩,
    ⟨(some 82), none, (.bin .sub (.t 81) (.k (.lit (.int .i64 1))))⟩,
    ⟨(some 10), none, (.mv (.t 82))⟩])))))))))
  (.seq (.reg [] [⟨(some 83), none, (.mv (.t 9))⟩,
    ⟨(some 8), none, (.mv (.t 83))⟩])
  .ret))))), [(.tmp 8)], [], false⟩
theorem fo143 : compF Tryz.prog 143 = some ⟨fe143.N, fe143.xc.er, fe143.rs⟩ := by kernel_rfl
theorem ox143 : okX fe143.xc = true := by kernel_rfl
theorem hb143 : hasBody Tryz.prog 143 = true := by kernel_rfl
theorem fk143 : FEOK Tryz.prog 143 fe143 := ⟨fo143, ox143, hb143⟩

/-- slices.partitionOrdered[int] -/
def fe144 : FE := ⟨168, (.seq (.reg [] [⟨(some 8), none, (.mv (.k (.lit (.int .i64 0))))⟩,
    ⟨(some 9), none, (.mv (.k (.lit (.bool false))))⟩])
  (.seq (.regd [] [[], [], [], [], [], [], [4, 5], [6], [], [], [8, 9], [10], [0, 1, 0, 1, 4, 5, 6, 7, 11], [12, 7, 0, 1, 4, 5, 6, 7, 11], [2, 3, 0, 1, 2, 3, 4, 5, 6, 7, 8, 9, 10, 11, 12, 13], [14, 11, 13, 0, 1, 2, 3, 4, 5, 6, 7, 8, 9, 10, 11, 12, 13]] [(⟨(some 12), none, (.mv (.t 0))⟩, ⟨[], none, false, false⟩),
    (⟨(some 13), none, (.mv (.t 1))⟩, ⟨[], none, false, false⟩),
    (⟨(some 14), none, (.mv (.t 0))⟩, ⟨[], none, false, false⟩),
    (⟨(some 15), none, (.mv (.t 3))⟩, ⟨[], none, false, false⟩),
    (⟨(some 16), none, (.mv (.t 0))⟩, ⟨[], none, false, false⟩),
    (⟨(some 17), none, (.mv (.t 3))⟩, ⟨[], none, false, false⟩),
    (⟨(some 18), none, (.iad 1 (.t 16) (.t 17))⟩, ⟨[], none, false, false⟩),
    (⟨(some 19), none, (.ld false 1 (.t 18))⟩, ⟨[], none, true, false⟩),
    (⟨(some 20), none, (.mv (.t 0))⟩, ⟨[], none, false, false⟩),
    (⟨(some 21), none, (.mv (.t 1))⟩, ⟨[], none, false, false⟩),
    (⟨(some 22), none, (.iad 1 (.t 20) (.t 21))⟩, ⟨[], none, false, false⟩),
    (⟨(some 23), none, (.ld false 1 (.t 22))⟩, ⟨[], none, true, false⟩),
    (⟨(some 24), none, (.iad 1 (.t 12) (.t 13))⟩, ⟨[], none, false, false⟩),
    (⟨none, none, (.st 1 (.t 24) (.t 19))⟩, ⟨[], none, true, true⟩),
    (⟨(some 25), none, (.iad 1 (.t 14) (.t 15))⟩, ⟨[], none, false, false⟩),
    (⟨none, none, (.st 1 (.t 25) (.t 23))⟩, ⟨[], none, true, true⟩)])
  (.seq (.reg [] [⟨(some 26), none, (.mv (.t 1))⟩,
    ⟨(some 27), none, (.bin .add (.t 26) (.k (.lit (.int .i64 1))))⟩,
    ⟨(some 28), none, (.mv (.t 2))⟩,
    ⟨(some 29), none, (.bin .sub (.t 28) (.k (.lit (.int .i64 1))))⟩,
    ⟨(some 10), none, (.mv (.t 27))⟩,
    ⟨(some 11), none, (.mv (.t 29))⟩])
  (.seq (.block 0 (.loop (.seq (.seq (.regd [] [[], [], [0, 1], [2], [3], [3], [4, 5, 3], [6, 3], [3], [3], [8, 9, 3], [10, 3], [7, 11, 3, 3], [3, 12]] [(⟨(some 30), none, (.mv (.t 10))⟩, ⟨[], none, false, false⟩),
    (⟨(some 31), none, (.mv (.t 11))⟩, ⟨[], none, false, false⟩),
    (⟨(some 32), none, (.bin .leq (.t 30) (.t 31))⟩, ⟨[], none, false, false⟩),
    (⟨(some 33), none, (.mv (.t 32))⟩, ⟨[], none, false, false⟩),
    (⟨(some 34), (some (33, true)), (.mv (.t 0))⟩, ⟨[], none, false, false⟩),
    (⟨(some 35), (some (33, true)), (.mv (.t 10))⟩, ⟨[], none, false, false⟩),
    (⟨(some 36), (some (33, true)), (.iad 1 (.t 34) (.t 35))⟩, ⟨[], none, false, false⟩),
    (⟨(some 37), (some (33, true)), (.ld false 1 (.t 36))⟩, ⟨[], none, true, false⟩),
    (⟨(some 38), (some (33, true)), (.mv (.t 0))⟩, ⟨[], none, false, false⟩),
    (⟨(some 39), (some (33, true)), (.mv (.t 1))⟩, ⟨[], none, false, false⟩),
    (⟨(some 40), (some (33, true)), (.iad 1 (.t 38) (.t 39))⟩, ⟨[], none, false, false⟩),
    (⟨(some 41), (some (33, true)), (.ld false 1 (.t 40))⟩, ⟨[], none, true, false⟩),
    (⟨(some 42), (some (33, true)), (.call 142 [(.t 37), (.t 41)])⟩, ⟨[], none, true, false⟩),
    (⟨(some 43), none, (.pick (.t 33) (.t 42) (.k (.lit (.bool false))))⟩, ⟨[], none, false, false⟩)])
  (.cond (.t 43) .skip (.exit 0)))
  (.block 1 (.reg [] [⟨(some 44), none, (.mv (.t 10))⟩,
    ⟨(some 45), none, (.bin .add (.t 44) (.k (.lit (.int .i64 1))))⟩,
    ⟨(some 10), none, (.mv (.t 45))⟩])))))
  (.seq (.block 2 (.loop (.seq (.seq (.regd [] [[], [], [0, 1], [2], [3], [3], [4, 5, 3], [6, 3], [3], [3], [8, 9, 3], [10, 3], [7, 11, 3, 3], [12, 3], [3, 13]] [(⟨(some 46), none, (.mv (.t 10))⟩, ⟨[], none, false, false⟩),
    (⟨(some 47), none, (.mv (.t 11))⟩, ⟨[], none, false, false⟩),
    (⟨(some 48), none, (.bin .leq (.t 46) (.t 47))⟩, ⟨[], none, false, false⟩),
    (⟨(some 49), none, (.mv (.t 48))⟩, ⟨[], none, false, false⟩),
    (⟨(some 50), (some (49, true)), (.mv (.t 0))⟩, ⟨[], none, false, false⟩),
    (⟨(some 51), (some (49, true)), (.mv (.t 11))⟩, ⟨[], none, false, false⟩),
    (⟨(some 52), (some (49, true)), (.iad 1 (.t 50) (.t 51))⟩, ⟨[], none, false, false⟩),
    (⟨(some 53), (some (49, true)), (.ld false 1 (.t 52))⟩, ⟨[], none, true, false⟩),
    (⟨(some 54), (some (49, true)), (.mv (.t 0))⟩, ⟨[], none, false, false⟩),
    (⟨(some 55), (some (49, true)), (.mv (.t 1))⟩, ⟨[], none, false, false⟩),
    (⟨(some 56), (some (49, true)), (.iad 1 (.t 54) (.t 55))⟩, ⟨[], none, false, false⟩),
    (⟨(some 57), (some (49, true)), (.ld false 1 (.t 56))⟩, ⟨[], none, true, false⟩),
    (⟨(some 58), (some (49, true)), (.call 142 [(.t 53), (.t 57)])⟩, ⟨[], none, true, false⟩),
    (⟨(some 59), (some (49, true)), (.un .not (.t 58))⟩, ⟨[], none, false, false⟩),
    (⟨(some 60), none, (.pick (.t 49) (.t 59) (.k (.lit (.bool false))))⟩, ⟨[], none, false, false⟩)])
  (.cond (.t 60) .skip (.exit 2)))
  (.block 3 (.reg [] [⟨(some 61), none, (.mv (.t 11))⟩,
    ⟨(some 62), none, (.bin .sub (.t 61) (.k (.lit (.int .i64 1))))⟩,
    ⟨(some 11), none, (.mv (.t 62))⟩])))))
  (.seq (.seq (.reg [] [⟨(some 63), none, (.mv (.t 10))⟩,
    ⟨(some 64), none, (.mv (.t 11))⟩,
    ⟨(some 65), none, (.bin .gtr (.t 63) (.t 64))⟩])
  (.cond (.t 65) (.seq (.regd [] [[], [], [], [], [], [], [4, 5], [6], [], [], [8, 9], [10], [0, 1, 0, 1, 4, 5, 6, 7, 11], [12, 7, 0, 1, 4, 5, 6, 7, 11], [2, 3, 0, 1, 2, 3, 4, 5, 6, 7, 8, 9, 10, 11, 12, 13], [14, 11, 13, 0, 1, 2, 3, 4, 5, 6, 7, 8, 9, 10, 11, 12, 13]] [(⟨(some 66), none, (.mv (.t 0))⟩, ⟨[], none, false, false⟩),
    (⟨(some 67), none, (.mv (.t 11))⟩, ⟨[], none, false, false⟩),
    (⟨(some 68), none, (.mv (.t 0))⟩, ⟨[], none, false, false⟩),
    (⟨(some 69), none, (.mv (.t 1))⟩, ⟨[], none, false, false⟩),
    (⟨(some 70), none, (.mv (.t 0))⟩, ⟨[], none, false, false⟩),
    (⟨(some 71), none, (.mv (.t 1))⟩, ⟨[], none, false, false⟩),
    (⟨(some 72), none, (.iad 1 (.t 70) (.t 71))⟩, ⟨[], none, false, false⟩),
    (⟨(some 73), none, (.ld false 1 (.t 72))⟩, ⟨[], none, true, false⟩),
    (⟨(some 74), none, (.mv (.t 0))⟩, ⟨[], none, false, false⟩),
    (⟨(some 75), none, (.mv (.t 11))⟩, ⟨[], none, false, false⟩),
    (⟨(some 76), none, (.iad 1 (.t 74) (.t 75))⟩, ⟨[], none, false, false⟩),
    (⟨(some 77), none, (.ld false 1 (.t 76))⟩, ⟨[], none, true, false⟩),
    (⟨(some 78), none, (.iad 1 (.t 66) (.t 67))⟩, ⟨[], none, false, false⟩),
    (⟨none, none, (.st 1 (.t 78) (.t 73))⟩, ⟨[], none, true, true⟩),
    (⟨(some 79), none, (.iad 1 (.t 68) (.t 69))⟩, ⟨[], none, false, false⟩),
    (⟨none, none, (.st 1 (.t 79) (.t 77))⟩, ⟨[], none, true, true⟩)])
  (.seq (.reg [] [⟨(some 80), none, (.mv (.t 11))⟩,
    ⟨(some 8), none, (.mv (.t 80))⟩,
    ⟨(some 9), none, (.mv (.k (.lit (.bool true))))⟩])
  .ret)) .skip))
  (.seq (.regd [] [[], [], [], [], [], [], [4, 5], [6], [], [], [8, 9], [10], [0, 1, 0, 1, 4, 5, 6, 7, 11], [12, 7, 0, 1, 4, 5, 6, 7, 11], [2, 3, 0, 1, 2, 3, 4, 5, 6, 7, 8, 9, 10, 11, 12, 13], [14, 11, 13, 0, 1, 2, 3, 4, 5, 6, 7, 8, 9, 10, 11, 12, 13]] [(⟨(some 81), none, (.mv (.t 0))⟩, ⟨[], none, false, false⟩),
    (⟨(some 82), none, (.mv (.t 10))⟩, ⟨[], none, false, false⟩),
    (⟨(some 83), none, (.mv (.t 0))⟩, ⟨[], none, false, false⟩),
    (⟨(some 84), none, (.mv (.t 11))⟩, ⟨[], none, false, false⟩),
    (⟨(some 85), none, (.mv (.t 0))⟩, ⟨[], none, false, false⟩),
    (⟨(some 86), none, (.mv (.t 11))⟩, ⟨[], none, false, false⟩),
    (⟨(some 87), none, (.iad 1 (.t 85) (.t 86))⟩, ⟨[], none, false, false⟩),
    (⟨(some 88), none, (.ld false 1 (.t 87))⟩, ⟨[], none, true, false⟩),
    (⟨(some 89), none, (.mv (.t 0))⟩, ⟨[], none, false, false⟩),
    (⟨(some 90), none, (.mv (.t 10))⟩, ⟨[], none, false, false⟩),
    (⟨(some 91), none, (.iad 1 (.t 89) (.t 90))⟩, ⟨[], none, false, false⟩),
    (⟨(some 92), none, (.ld false 1 (.t 91))⟩, ⟨[], none, true, false⟩),
    (⟨(some 93), none, (.iad 1 (.t 81) (.t 82))⟩, ⟨[], none, false, false⟩),
    (⟨none, none, (.st 1 (.t 93) (.t 88))⟩, ⟨[], none, true, true⟩),
    (⟨(some 94), none, (.iad 1 (.t 83) (.t 84))⟩, ⟨[], none, false, false⟩),
    (⟨none, none, (.st 1 (.t 94) (.t 92))⟩, ⟨[], none, true, true⟩)])
  (.seq (.reg [] [⟨(some 95), none, (.mv (.t 10))⟩,
    ⟨(some 96), none, (.bin .add (.t 95) (.k (.lit (.int .i64 1))))⟩,
    ⟨(some 10), none, (.mv (.t 96))⟩])
  (.seq (.reg [] [⟨(some 97), none, (.mv (.t 11))⟩,
    ⟨(some 98), none, (.bin .sub (.t 97) (.k (.lit (.int .i64 1))))⟩,
    ⟨(some 11), none, (.mv (.t 98))⟩])
  (.seq (.block 4 (.loop (.block 5 (.seq (.block 6 (.loop (.seq (.seq (.regd [] [[], [], [0, 1], [2], [3], [3], [4, 5, 3], [6, 3], [3], [3], [8, 9, 3], [10, 3], [7, 11, 3, 3], [3, 12]] [(⟨(some 99), none, (.mv (.t 10))⟩, ⟨[], none, false, false⟩),
    (⟨(some 100), none, (.mv (.t 11))⟩, ⟨[], none, false, false⟩),
    (⟨(some 101), none, (.bin .leq (.t 99) (.t 100))⟩, ⟨[], none, false, false⟩),
    (⟨(some 102), none, (.mv (.t 101))⟩, ⟨[], none, false, false⟩),
    (⟨(some 103), (some (102, true)), (.mv (.t 0))⟩, ⟨[], none, false, false⟩),
    (⟨(some 104), (some (102, true)), (.mv (.t 10))⟩, ⟨[], none, false, false⟩),
    (⟨(some 105), (some (102, true)), (.iad 1 (.t 103) (.t 104))⟩, ⟨[], none, false, false⟩),
    (⟨(some 106), (some (102, true)), (.ld false 1 (.t 105))⟩, ⟨[], none, true, false⟩),
    (⟨(some 107), (some (102, true)), (.mv (.t 0))⟩, ⟨[], none, false, false⟩),
    (⟨(some 108), (some (102, true)), (.mv (.t 1))⟩, ⟨[], none, false, false⟩),
    (⟨(some 109), (some (102, true)), (.iad 1 (.t 107) (.t 108))⟩, ⟨[], none, false, false⟩),
    (⟨(some 110), (some (102, true)), (.ld false 1 (.t 109))⟩, ⟨[], none, true, false⟩),
    (⟨(some 111), (some (102, true)), (.call 142 [(.t 106), (.t 110)])⟩, ⟨[], none, true, false⟩),
    (⟨(some 112), none, (.pick (.t 102) (.t 111) (.k (.lit (.bool false))))⟩, ⟨[], none, false, false⟩)])
  (.cond (.t 112) .skip (.exit 6)))
  (.block 7 (.reg [] [⟨(some 113), none, (.mv (.t 10))⟩,
    ⟨(some 114), none, (.bin .add (.t 113) (.k (.lit (.int .i64 1))))⟩,
    ⟨(some 10), none, (.mv (.t 114))⟩])))))
  (.seq (.block 8 (.loop (.seq (.seq (.regd [] [[], [], [0, 1], [2], [3], [3], [4, 5, 3], [6, 3], [3], [3], [8, 9, 3], [10, 3], [7, 11, 3, 3], [12, 3], [3, 13]] [(⟨(some 115), none, (.mv (.t 10))⟩, ⟨[], none, false, false⟩),
    (⟨(some 116), none, (.mv (.t 11))⟩, ⟨[], none, false, false⟩),
    (⟨(some 117), none, (.bin .leq (.t 115) (.t 116))⟩, ⟨[], none, false, false⟩),
    (⟨(some 118), none, (.mv (.t 117))⟩, ⟨[], none, false, false⟩),
    (⟨(some 119), (some (118, true)), (.mv (.t 0))⟩, ⟨[], none, false, false⟩),
    (⟨(some 120), (some (118, true)), (.mv (.t 11))⟩, ⟨[], none, false, false⟩),
    (⟨(some 121), (some (118, true)), (.iad 1 (.t 119) (.t 120))⟩, ⟨[], none, false, false⟩),
    (⟨(some 122), (some (118, true)), (.ld false 1 (.t 121))⟩, ⟨[], none, true, false⟩),
    (⟨(some 123), (some (118, true)), (.mv (.t 0))⟩, ⟨[], none, false, false⟩),
    (⟨(some 124), (some (118, true)), (.mv (.t 1))⟩, ⟨[], none, false, false⟩),
    (⟨(some 125), (some (118, true)), (.iad 1 (.t 123) (.t 124))⟩, ⟨[], none, false, false⟩),
    (⟨(some 126), (some (118, true)), (.ld false 1 (.t 125))⟩, ⟨[], none, true, false⟩),
    (⟨(some 127), (some (118, true)), (.call 142 [(.t 122), (.t 126)])⟩, ⟨[], none, true, false⟩),
    (⟨(some 128), (some (118, true)), (.un .not (.t 127))⟩, ⟨[], none, false, false⟩),
    (⟨(some 129), none, (.pick (.t 118) (.t 128) (.k (.lit (.bool false))))⟩, ⟨[], none, false, false⟩)])
  (.cond (.t 129) .skip (.exit 8)))
  (.block 9 (.reg [] [⟨(some 130), none, (.mv (.t 11))⟩,
    ⟨(some 131), none, (.bin .sub (.t 130) (.k (.lit (.int .i64 1))))⟩,
    ⟨(some 11), none, (.mv (.t 131))⟩])))))
  (.seq (.seq (.reg [] [⟨(some 132), none, (.mv (.t 10))⟩,
    ⟨(some 133), none, (.mv (.t 11))⟩,
    ⟨(some 134), none, (.bin .gtr (.t 132) (.t 133))⟩])
  (.cond (.t 134) (.exit 4) .skip))
  (.seq (.regd [] [[], [], [], [], [], [], [4, 5], [6], [], [], [8, 9], [10], [0, 1, 0, 1, 4, 5, 6, 7, 11], [12, 7, 0, 1, 4, 5, 6, 7, 11], [2, 3, 0, 1, 2, 3, 4, 5, 6, 7, 8, 9, 10, 11, 12, 13], [14, 11, 13, 0, 1, 2, 3, 4, 5, 6, 7, 8, 9, 10, 11, 12, 13]] [(⟨(some 135), none, (.mv (.t 0))⟩, ⟨[], none, false, false⟩),
    (⟨(some 136), none, (.mv (.t 10))⟩, ⟨[], none, false, false⟩),
    (⟨(some 137), none, (.mv (.t 0))⟩, ⟨[], none, false, false⟩),
    (⟨(some 138), none, (.mv (.t 11))⟩, ⟨[], none, false, false⟩),
    (⟨(some 139), none, (.mv (.t 0))⟩, ⟨[], none, false, false⟩),
    (⟨(some 140), none, (.mv (.t 11))⟩, ⟨[], none, false, false⟩),
    (⟨(some 141), none, (.iad 1 (.t 139) (.t 140))⟩, ⟨[], none, false, false⟩),
    (⟨(some 142), none, (.ld false 1 (.t 141))⟩, ⟨[], none, true, false⟩),
    (⟨(some 143), none, (.mv (.t 0))⟩, ⟨[], none, false, false⟩),
    (⟨(some 144), none, (.mv (.t 10))⟩, ⟨[], none, false, false⟩),
    (⟨(some 145), none, (.iad 1 (.t 143) (.t 144))⟩, ⟨[], none, false, false⟩),
    (⟨(some 146), none, (.ld false 1 (.t 145))⟩, ⟨[], none, true, false⟩),
    (⟨(some 147), none, (.iad 1 (.t 135) (.t 136))⟩, ⟨[], none, false, false⟩),
    (⟨none, none, (.st 1 (.t 147) (.t 142))⟩, ⟨[], none, true, true⟩),
    (⟨(some 148), none, (.iad 1 (.t 137) (.t 138))⟩, ⟨[], none, false, false⟩),
    (⟨none, none, (.st 1 (.t 148) (.t 146))⟩, ⟨[], none, true, true⟩)])
  (.seq (.reg [] [⟨(some 149), none, (.mv (.t 10))⟩,
    ⟨(some 150), none, (.bin .add (.t 149) (.k (.lit (.int .i64 1))))⟩,
    ⟨(some 10), none, (.mv (.t 150))⟩])
  (.reg [] [⟨(some 151), none, (.mv (.t 11))⟩,
    ⟨(some 152), none, (.bin .sub (.t 151) (.k (.lit (.int .i64 1))))⟩,
    ⟨(some 11), none, (.mv (.t 152))⟩])))))))))
  (.seq (.regd [] [[], [], [], [], [], [], [4, 5], [6], [], [], [8, 9], [10], [0, 1, 0, 1, 4, 5, 6, 7, 11], [12, 7, 0, 1, 4, 5, 6, 7, 11], [2, 3, 0, 1, 2, 3, 4, 5, 6, 7, 8, 9, 10, 11, 12, 13], [14, 11, 13, 0, 1, 2, 3, 4, 5, 6, 7, 8, 9, 10, 11, 12, 13]] [(⟨(some 153), none, (.mv (.t 0))⟩, ⟨[], none, false, false⟩),
    (⟨(some 154), none, (.mv (.t 11))⟩, ⟨[], none, false, false⟩),
    (⟨(some 155), none, (.mv (.t 0))⟩, ⟨[], none, false, false⟩),
    (⟨(some 156), none, (.mv (.t 1))⟩, ⟨[], none, false, false⟩),
    (⟨(some 157), none, (.mv (.t 0))⟩, ⟨[], none, false, false⟩),
    (⟨(some 158), none, (.mv (.t 1))⟩, ⟨[], none, false, false⟩),
    (⟨(some 159), none, (.iad 1 (.t 157) (.t 158))⟩, ⟨[], none, false, false⟩),
    (⟨(some 160), none, (.ld false 1 (.t 159))⟩, ⟨[], none, true, false⟩),
    (⟨(some 161), none, (.mv (.t 0))⟩, ⟨[], none, false, false⟩),
    (⟨(some 162), none, (.mv (.t 11))⟩, ⟨[], none, false, false⟩),
    (⟨(some 163), none, (.iad 1 (.t 161) (.t 162))⟩, ⟨[], none, false, false⟩),
    (⟨(some 164), none, (.ld false 1 (.t 163))⟩, ⟨[], none, true, false⟩),
    (⟨(some 165), none, (.iad 1 (.t 153) (.t 154))⟩, ⟨[], none, false, false⟩),
    (⟨none, none, (.st 1 (.t 165) (.t 160))⟩, ⟨[], none, true, true⟩),
    (⟨(some 166), none, (.iad 1 (.t 155) (.t 156))⟩, ⟨[], none, false, false⟩),
    (⟨none, none, (.st 1 (.t 166) (.t 164))⟩, ⟨[], none, true, true⟩)])
  (.seq (.reg [] [⟨(some 167), none, (.mv (.t 11))⟩,
    ⟨(some 8), none, (.mv (.t 167))⟩,
    ⟨(some 9), none, (.mv (.k (.lit (.bool false))))⟩])
  .ret)))))))))))), [(.tmp 8), (.tmp 9)], [], false⟩
theorem fo144 : compF Tryz.prog 144 = some ⟨fe144.N, fe144.xc.er, fe144.rs⟩ := by kernel_rfl
theorem ox144 : okX fe144.xc = true := by kernel_rfl
theorem hb144 : hasBody Tryz.prog 144 = true := by kernel_rfl
theorem fk144 : FEOK Tryz.prog 144 fe144 := ⟨fo144, ox144, hb144⟩

/-- math/bits.Len32 -/
def fe145 : FE := ⟨19, (.seq (.reg [] [⟨(some 2), none, (.mv (.k (.lit (.int .i64 0))))⟩])
  (.seq (.seq (.reg [] [⟨(some 3), none, (.mv (.t 0))⟩,
    ⟨(some 4), none, (.bin .geq (.t 3) (.k (.lit (.int .u32 65536))))⟩])
  (.cond (.t 4) (.seq (.reg [] [⟨(some 5), none, (.mv (.t 0))⟩,
    ⟨(some 6), none, (.bin .shr (.t 5) (.k (.lit (.int .u64 16))))⟩,
    ⟨(some 0), none, (.mv (.t 6))⟩])
  (.reg [] [⟨(some 2), none, (.mv (.k (.lit (.int .i64 16))))⟩])) .skip))
  (.seq (.seq (.reg [] [⟨(some 7), none, (.mv (.t 0))⟩,
    ⟨(some 8), none, (.bin .geq (.t 7) (.k (.lit (.int .u32 256))))⟩])
  (.cond (.t 8) (.seq (.reg [] [⟨(some 9), none, (.mv (.t 0))⟩,
    ⟨(some 10), none, (.bin .shr (.t 9) (.k (.lit (.int .u64 8))))⟩,
    ⟨(some 0), none, (.mv (.t 10))⟩])
  (.reg [] [⟨(some 11), none, (.mv (.t 2))⟩,
    ⟨(some 12), none, (.bin .add (.t 11) (.k (.lit (.int .i64 8))))⟩,
    ⟨(some 2), none, (.mv (.t 12))⟩])) .skip))
  (.seq (.reg [] [⟨(some 13), none, (.mv (.t 2))⟩,
    ⟨(some 14), none, (.mv (.t 0))⟩,
    ⟨(some 15), none, (.cv .u8 (.t 14))⟩,
    ⟨(some 16), none, (.ixs [0, 1, 2, 2, 3, 3, 3, 3, 4, 4, 4, 4, 4, 4, 4, 4, 5, 5, 5, 5, 5, 5, 5, 5, 5, 5, 5, 5, 5, 5, 5, 5, 6, 6, 6, 6, 6, 6, 6, 6, 6, 6, 6, 6, 6, 6, 6, 6, 6, 6, 6, 6, 6, 6, 6, 6, 6, 6, 6, 6, 6, 6, 6, 6, 7, 7, 7, 7, 7, 7, 7, 7, 7, 7, 7, 7, 7, 7, 7, 7, 7, 7, 7, 7, 7, 7, 7, 7, 7, 7, 7, 7, 7, 7, 7, 7, 7, 7, 7, 7, 7, 7, 7, 7, 7, 7, 7, 7, 7, 7, 7, 7, 7, 7, 7, 7, 7, 7, 7, 7, 7, 7, 7, 7, 7, 7, 7, 7, 8, 8, 8, 8, 8, 8, 8, 8, 8, 8, 8, 8, 8, 8, 8, 8, 8, 8, 8, 8, 8, 8, 8, 8, 8, 8, 8, 8, 8, 8, 8, 8, 8, 8, 8, 8, 8, 8, 8, 8, 8, 8, 8, 8, 8, 8, 8, 8, 8, 8, 8, 8, 8, 8, 8, 8, 8, 8, 8, 8, 8, 8, 8, 8, 8, 8, 8, 8, 8, 8, 8, 8, 8, 8, 8, 8, 8, 8, 8, 8, 8, 8, 8, 8, 8, 8, 8, 8, 8, 8, 8, 8, 8, 8, 8, 8, 8, 8, 8, 8, 8, 8, 8, 8, 8, 8, 8, 8, 8, 8, 8, 8, 8, 8, 8, 8, 8, 8, 8, 8, 8, 8, 8, 8, 8, 8, 8, 8] (.t 15))⟩,
    ⟨(some 17), none, (.cv .i64 (.t 16))⟩,
    ⟨(some 18), none, (.bin .add (.t 13) (.t 17))⟩,
    ⟨(some 2), none, (.mv (.t 18))⟩])
  .ret)))), [(.tmp 2)], [], true⟩
theorem fo145 : compF Tryz.prog 145 = some ⟨fe145.N, fe145.xc.er, fe145.rs⟩ := by kernel_rfl
theorem ox145 : okX fe145.xc = true := by kernel_rfl
theorem hb145 : hasBody Tryz.prog 145 = true := by kernel_rfl
theorem fk145 : FEOK Tryz.prog 145 fe145 := ⟨fo145, ox145, hb145⟩

/-- math/bits.Len64 -/
def fe146 : FE := ⟨25, (.seq (.reg [] [⟨(some 2), none, (.mv (.k (.lit (.int .i64 0))))⟩])
  (.seq (.seq (.reg [] [⟨(some 3), none, (.mv (.t 0))⟩,
    ⟨(some 4), none, (.bin .geq (.t 3) (.k (.lit (.int .u64 4294967296))))⟩])
  (.cond (.t 4) (.seq (.reg [] [⟨(some 5), none, (.mv (.t 0))⟩,
    ⟨(some 6), none, (.bin .shr (.t 5) (.k (.lit (.int .u64 32))))⟩,
    ⟨(some 0), none, (.mv (.t 6))⟩])
  (.reg [] [⟨(some 2), none, (.mv (.k (.lit (.int .i64 32))))⟩])) .skip))
  (.seq (.seq (.reg [] [⟨(some 7), none, (.mv (.t 0))⟩,
    ⟨(some 8), none, (.bin .geq (.t 7) (.k (.lit (.int .u64 65536))))⟩])
  (.cond (.t 8) (.seq (.reg [] [⟨(some 9), none, (.mv (.t 0))⟩,
    ⟨(some 10), none, (.bin .shr (.t 9) (.k (.lit (.int .u64 16))))⟩,
    ⟨(some 0), none, (.mv (.t 10))⟩])
  (.reg [] [⟨(some 11), none, (.mv (.t 2))⟩,
    ⟨(some 12), none, (.bin .add (.t 11) (.k (.lit (.int .i64 16))))⟩,
    ⟨(some 2), none, (.mv (.t 12))⟩])) .skip))
  (.seq (.seq (.reg [] [⟨(some 13), none, (.mv (.t 0))⟩,
    ⟨(some 14), none, (.bin .geq (.t 13) (.k (.lit (.int .u64 256))))⟩])
  (.cond (.t 14) (.seq (.reg [] [⟨(some 15), none, (.mv (.t 0))⟩,
    ⟨(some 16), none, (.bin .shr (.t 15) (.k (.lit (.int .u64 8))))⟩,
    ⟨(some 0), none, (.mv (.t 16))⟩])
  (.reg [] [⟨(some 17), none, (.mv (.t 2))⟩,
    ⟨(some 18), none, (.bin .add (.t 17) (.k (.lit (.int .i64 8))))⟩,
    ⟨(some 2), none, (.mv (.t 18))⟩])) .skip))
  (.seq (.reg [] [⟨(some 19), none, (.mv (.t 2))⟩,
    ⟨(some 20), none, (.mv (.t 0))⟩,
    ⟨(some 21), none, (.cv .u8 (.t 20))⟩,
    ⟨(some 22), none, (.ixs [0, 1, 2, 2, 3, 3, 3, 3, 4, 4, 4, 4, 4, 4, 4, 4, 5, 5, 5, 5, 5, 5, 5, 5, 5, 5, 5, 5, 5, 5, 5, 5, 6, 6, 6, 6, 6, 6, 6, 6, 6, 6, 6, 6, 6, 6, 6, 6, 6, 6, 6, 6, 6, 6, 6, 6, 6, 6, 6, 6, 6, 6, 6, 6, 7, 7, 7, 7, 7, 7, 7, 7, 7, 7, 7, 7, 7, 7, 7, 7, 7, 7, 7, 7, 7, 7, 7, 7, 7, 7, 7, 7, 7, 7, 7, 7, 7, 7, 7, 7, 7, 7, 7, 7, 7, 7, 7, 7, 7, 7, 7, 7, 7, 7, 7, 7, 7, 7, 7, 7, 7, 7, 7, 7, 7, 7, 7, 7, 8, 8, 8, 8, 8, 8, 8, 8, 8, 8, 8, 8, 8, 8, 8, 8, 8, 8, 8, 8, 8, 8, 8, 8, 8, 8, 8, 8, 8, 8, 8, 8, 8, 8, 8, 8, 8, 8, 8, 8, 8, 8, 8, 8, 8, 8, 8, 8, 8, 8, 8, 8, 8, 8, 8, 8, 8, 8, 8, 8, 8, 8, 8, 8, 8, 8, 8, 8, 8, 8, 8, 8, 8, 8, 8, 8, 8, 8, 8, 8, 8, 8, 8, 8, 8, 8, 8, 8, 8, 8, 8, 8, 8, 8, 8, 8, 8, 8, 8, 8, 8, 8, 8, 8, 8, 8, 8, 8, 8, 8, 8, 8, 8, 8, 8, 8, 8, 8, 8, 8, 8, 8, 8, 8, 8, 8, 8, 8] (.t 21))⟩,
    ⟨(some 23), none, (.cv .i64 (.t 22))⟩,
    ⟨(some 24), none, (.bin .add (.t 19) (.t 23))⟩,
    ⟨(some 2), none, (.mv (.t 24))⟩])
  .ret))))), [(.tmp 2)], [], true⟩
theorem fo146 : compF Tryz.prog 146 = some ⟨fe146.N, fe146.xc.er, fe146.rs⟩ := by kernel_rfl
theorem ox146 : okX fe146.xc = true := by kernel_rfl
theorem hb146 : hasBody Tryz.prog 146 = true := by kernel_rfl
theorem fk146 : FEOK Tryz.prog 146 fe146 := ⟨fo146, ox146, hb146⟩

/-- isohyet/wide.minus -/
def fe147 : FE := ⟨7, (.seq (.reg [1] [⟨(some 1), none, (.box (.t 0))⟩,
    ⟨(some 2), none, (.mv (.k (.lit (.bool false))))⟩])
  (.seq (.reg [] [⟨(some 3), none, (.fad 0 (.t 1))⟩,
    ⟨(some 4), none, (.ld false 1 (.t 3))⟩,
    ⟨(some 5), none, (.bin .shr (.t 4) (.k (.lit (.int .u64 63))))⟩,
    ⟨(some 6), none, (.bin .eql (.t 5) (.k (.lit (.int .u64 1))))⟩,
    ⟨(some 2), none, (.mv (.t 6))⟩])
  .ret)), [(.tmp 2)], [], true⟩
theorem fo147 : compF Tryz.prog 147 = some ⟨fe147.N, fe147.xc.er, fe147.rs⟩ := by kernel_rfl
theorem ox147 : okX fe147.xc = true := by kernel_rfl
theorem hb147 : hasBody Tryz.prog 147 = true := by kernel_rfl
theorem fk147 : FEOK Tryz.prog 147 fe147 := ⟨fo147, ox147, hb147⟩

/-- isohyet/wide.turn -/
def fe148 : FE := ⟨25, (.seq (.reg [1, 2] [⟨(some 1), none, (.box (.t 0))⟩,
    ⟨(some 2), none, (.new [(.lit (.int .u64 0)), (.lit (.int .u64 0))])⟩])
  (.seq (.reg [] [⟨(some 8), none, (.fad 1 (.t 1))⟩,
    ⟨(some 9), none, (.ld false 1 (.t 8))⟩,
    ⟨(some 10), none, (.un .xor (.t 9))⟩,
    ⟨(some 11), none, (.adc (.t 10) (.k (.lit (.int .u64 1))) (.k (.lit (.int .u64 0))))⟩,
    ⟨(some 7), none, (.mv (.t 11))⟩,
    ⟨(some 12), none, (.ext (.t 7) 0)⟩,
    ⟨(some 13), none, (.ext (.t 7) 1)⟩,
    ⟨(some 3), none, (.mv (.t 12))⟩,
    ⟨(some 4), none, (.mv (.t 13))⟩])
  (.seq (.reg [] [⟨(some 15), none, (.fad 0 (.t 1))⟩,
    ⟨(some 16), none, (.ld false 1 (.t 15))⟩,
    ⟨(some 17), none, (.un .xor (.t 16))⟩,
    ⟨(some 18), none, (.mv (.t 4))⟩,
    ⟨(some 19), none, (.adc (.t 17) (.k (.lit (.int .u64 0))) (.t 18))⟩,
    ⟨(some 14), none, (.mv (.t 19))⟩,
    ⟨(some 20), none, (.ext (.t 14) 0)⟩,
    ⟨(some 21), none, (.ext (.t 14) 1)⟩,
    ⟨(some 5), none, (.mv (.t 20))⟩,
    ⟨(some 6), none, (.mv (.t 21))⟩])
  (.seq (.reg [] [⟨(some 22), none, (.mv (.t 5))⟩,
    ⟨(some 23), none, (.mv (.t 3))⟩,
    ⟨(some 24), none, (.bld [(.lit (.int .u64 0)), (.lit (.int .u64 0))] [(0, (1, (.t 22))), (1, (1, (.t 23)))])⟩,
    ⟨none, none, (.st 2 (.t 2) (.t 24))⟩])
  .ret)))), [(.cell 2 true 2)], [], true⟩
theorem fo148 : compF Tryz.prog 148 = some ⟨fe148.N, fe148.xc.er, fe148.rs⟩ := by kernel_rfl
theorem ox148 : okX fe148.xc = true := by kernel_rfl
theorem hb148 : hasBody Tryz.prog 148 = true := by kernel_rfl
theorem fk148 : FEOK Tryz.prog 148 fe148 := ⟨fo148, ox148, hb148⟩

/-- isohyet/wide.abs -/
def fe149 : FE := ⟨10, (.seq (.reg [] [⟨(some 2), none, (.mv (.k (.lit (.int .u64 0))))⟩])
  (.seq (.seq (.reg [] [⟨(some 3), none, (.mv (.t 0))⟩,
    ⟨(some 4), none, (.bin .lss (.t 3) (.k (.lit (.int .i64 0))))⟩])
  (.cond (.t 4) (.seq (.reg [] [⟨(some 5), none, (.mv (.t 0))⟩,
    ⟨(some 6), none, (.cv .u64 (.t 5))⟩,
    ⟨(some 7), none, (.un .neg (.t 6))⟩,
    ⟨(some 2), none, (.mv (.t 7))⟩])
  .ret) .skip))
  (.seq (.reg [] [⟨(some 8), none, (.mv (.t 0))⟩,
    ⟨(some 9), none, (.cv .u64 (.t 8))⟩,
    ⟨(some 2), none, (.mv (.t 9))⟩])
  .ret))), [(.tmp 2)], [], true⟩
theorem fo149 : compF Tryz.prog 149 = some ⟨fe149.N, fe149.xc.er, fe149.rs⟩ := by kernel_rfl
theorem ox149 : okX fe149.xc = true := by kernel_rfl
theorem hb149 : hasBody Tryz.prog 149 = true := by kernel_rfl
theorem fk149 : FEOK Tryz.prog 149 fe149 := ⟨fo149, ox149, hb149⟩

/-- isohyet/mag.word -/
def fe150 : FE := ⟨35, (.seq (.reg [] [⟨(some 4), none, (.mv (.k (.lit (.slice none 0 0))))⟩,
    ⟨(some 5), none, (.mv (.k (.lit (.int .u64 0))))⟩])
  (.seq (.reg [] [⟨(some 9), none, (.mv (.t 0))⟩,
    ⟨(some 10), none, (.len (.t 9))⟩,
    ⟨(some 11), none, (.mks 1 8 [(.lit (.int .u64 0))] (.t 10) (.t 10))⟩,
    ⟨(some 6), none, (.mv (.t 11))⟩])
  (.seq (.reg [] [⟨(some 7), none, (.mv (.k (.lit (.int .u64 0))))⟩])
  (.seq (.seq (.reg [] [⟨(some 12), none, (.mv (.t 0))⟩,
    ⟨(some 13), none, (.len (.t 12))⟩,
    ⟨(some 14), none, (.bin .sub (.t 13) (.k (.lit (.int .i64 1))))⟩,
    ⟨(some 8), none, (.mv (.t 14))⟩])
  (.block 0 (.loop (.seq (.seq (.reg [] [⟨(some 15), none, (.mv (.t 8))⟩,
    ⟨(some 16), none, (.bin .geq (.t 15) (.k (.lit (.int .i64 0))))⟩])
  (.cond (.t 16) .skip (.exit 0)))
  (.seq (.block 1 (.reg [] [⟨(some 20), none, (.mv (.t 6))⟩,
    ⟨(some 21), none, (.mv (.t 8))⟩,
    ⟨(some 22), none, (.mv (.t 7))⟩,
    ⟨(some 23), none, (.mv (.t 0))⟩,
    ⟨(some 24), none, (.mv (.t 8))⟩,
    ⟨(some 25), none, (.iad 1 (.t 23) (.t 24))⟩,
    ⟨(some 26), none, (.ld false 1 (.t 25))⟩,
    ⟨(some 27), none, (.mv (.t 1))⟩,
    ⟨(some 28), none, (.call 171 [(.t 22), (.t 26), (.t 27)])⟩,
    ⟨(some 19), none, (.mv (.t 28))⟩,
    ⟨(some 29), none, (.ext (.t 19) 0)⟩,
    ⟨(some 30), none, (.ext (.t 19) 1)⟩,
    ⟨(some 31), none, (.iad 1 (.t 20) (.t 21))⟩,
    ⟨none, none, (.st 1 (.t 31) (.t 29))⟩,
    ⟨(some 7), none, (.mv (.t 30))⟩]))
  (.reg [] [⟨(some 17), none, (.mv (.t 8))⟩,
    ⟨(some 18), none, (.bin .sub (.t 17) (.k (.lit (.int .i64 1))))⟩,
    ⟨(some 8), none, (.mv (.t 18))⟩]))))))
  (.seq (.reg [] [⟨(some 32), none, (.mv (.t 6))⟩,
    ⟨(some 33), none, (.call 106 [(.t 32)])⟩,
    ⟨(some 34), none, (.mv (.t 7))⟩,
    ⟨(some 4), none, (.mv (.t 33))⟩,
    ⟨(some 5), none, (.mv (.t 34))⟩])
  .ret))))), [(.tmp 4), (.tmp 5)], [], true⟩
theorem fo150 : compF Tryz.prog 150 = some ⟨fe150.N, fe150.xc.er, fe150.rs⟩ := by kernel_rfl
theorem ox150 : okX fe150.xc = true := by kernel_rfl
theorem hb150 : hasBody Tryz.prog 150 = true := by kernel_rfl
theorem fk150 : FEOK Tryz.prog 150 fe150 := ⟨fo150, ox150, hb150⟩

/-- isohyet/mag.Up -/
def fe151 : FE := ⟨62, (.seq (.reg [] [⟨(some 4), none, (.mv (.k (.lit (.slice none 0 0))))⟩])
  (.seq (.reg [] [⟨(some 9), none, (.mv (.t 1))⟩,
    ⟨(some 10), none, (.mnx true [(.t 9), (.k (.lit (.int .i64 0)))])⟩,
    ⟨(some 11), none, (.mnx false [(.t 10), (.k (.lit (.int .i64 8192)))])⟩,
    ⟨(some 1), none, (.mv (.t 11))⟩])
  (.seq (.reg [] [⟨(some 12), none, (.mv (.t 0))⟩,
    ⟨(some 13), none, (.call 106 [(.t 12)])⟩,
    ⟨(some 0), none, (.mv (.t 13))⟩])
  (.seq (.seq (.reg [] [⟨(some 14), none, (.mv (.t 0))⟩,
    ⟨(some 15), none, (.len (.t 14))⟩,
    ⟨(some 16), none, (.bin .eql (.t 15) (.k (.lit (.int .i64 0))))⟩])
  (.cond (.t 16) (.seq (.reg [] [⟨(some 4), none, (.mv (.k (.lit (.slice none 0 0))))⟩])
  .ret) .skip))
  (.seq (.reg [] [⟨(some 17), none, (.mv (.t 1))⟩,
    ⟨(some 18), none, (.bin .quo (.t 17) (.k (.lit (.int .i64 64))))⟩,
    ⟨(some 19), none, (.mv (.t 0))⟩,
    ⟨(some 20), none, (.len (.t 19))⟩,
    ⟨(some 21), none, (.bin .add (.t 18) (.t 20))⟩,
    ⟨(some 22), none, (.bin .add (.t 21) (.k (.lit (.int .i64 1))))⟩,
    ⟨(some 23), none, (.mks 1 8 [(.lit (.int .u64 0))] (.t 22) (.t 22))⟩,
    ⟨(some 5), none, (.mv (.t 23))⟩])
  (.seq (.reg [] [⟨(some 24), none, (.mv (.t 1))⟩,
    ⟨(some 25), none, (.bin .rem (.t 24) (.k (.lit (.int .i64 64))))⟩,
    ⟨(some 26), none, (.cv .u64 (.t 25))⟩,
    ⟨(some 6), none, (.mv (.t 26))⟩])
  (.seq (.seq (.reg [] [⟨(some 27), none, (.mv (.t 0))⟩,
    ⟨(some 28), none, (.len (.t 27))⟩,
    ⟨(some 29), none, (.mv (.k (.lit (.int .i64 0))))⟩])
  (.block 0 (.loop (.seq (.reg [] [⟨(some 30), none, (.bin .lss (.t 29) (.t 28))⟩])
  (.seq (.cond (.t 30) .skip (.exit 0))
  (.seq (.block 1 (.seq (.reg [] [⟨(some 31), none, (.mv (.t 29))⟩,
    ⟨(some 32), none, (.iad 1 (.t 27) (.t 29))⟩,
    ⟨(some 33), none, (.ld false 1 (.t 32))⟩,
    ⟨(some 7), none, (.mv (.t 31))⟩,
    ⟨(some 8), none, (.mv (.t 33))⟩])
  (.seq (.reg [] [⟨(some 34), none, (.mv (.t 5))⟩,
    ⟨(some 35), none, (.mv (.t 1))⟩,
    ⟨(some 36), none, (.bin .quo (.t 35) (.k (.lit (.int .i64 64))))⟩,
    ⟨(some 37), none, (.mv (.t 7))⟩,
    ⟨(some 38), none, (.bin .add (.t 36) (.t 37))⟩,
    ⟨(some 39), none, (.iad 1 (.t 34) (.t 38))⟩,
    ⟨(some 40), none, (.ld false 1 (.t 39))⟩,
    ⟨(some 41), none, (.mv (.t 8))⟩,
    ⟨(some 42), none, (.mv (.t 6))⟩,
    ⟨(some 43), none, (.bin .shl (.t 41) (.t 42))⟩,
    ⟨(some 44), none, (.bin .or (.t 40) (.t 43))⟩,
    ⟨(some 45), none, (.iad 1 (.t 34) (.t 38))⟩,
    ⟨none, none, (.st 1 (.t 45) (.t 44))⟩])
  (.seq (.reg [] [⟨(some 46), none, (.mv (.t 6))⟩,
    ⟨(some 47), none, (.bin .gtr (.t 46) (.k (.lit (.int .u64 0))))⟩])
  (.cond (.t 47) (.reg [] [⟨(some 48), none, (.mv (.t 5))⟩,
    ⟨(some 49), none, (.mv (.t 1))⟩,
    ⟨(some 50), none, (.bin .quo (.t 49) (.k (.lit (.int .i64 64))))⟩,
    ⟨(some 51), none, (.mv (.t 7))⟩,
    ⟨(some 52), none, (.bin .add (.t 50) (.t 51))⟩,
    ⟨(some 53), none, (.bin .add (.t 52) (.k (.lit (.int .i64 1))))⟩,
    ⟨(some 54), none, (.mv (.t 8))⟩,
    ⟨(some 55), none, (.mv (.t 6))⟩,
    ⟨(some 56), none, (.bin .sub (.k (.lit (.int .u64 64))) (.t 55))⟩,
    ⟨(some 57), none, (.bin .shr (.t 54) (.t 56))⟩,
    ⟨(some 58), none, (.iad 1 (.t 48) (.t 53))⟩,
    ⟨none, none, (.st 1 (.t 58) (.t 57))⟩]) .skip)))))
  (.reg [] [⟨(some 59), none, (.bin .add (.t 29) (.k (.lit (.int .i64 1))))⟩,
    ⟨(some 29), none, (.mv (.t 59))⟩])))))))
  (.seq (.reg [] [⟨(some 60), none, (.mv (.t 5))⟩,
    ⟨(some 61), none, (.call 106 [(.t 60)])⟩,
    ⟨(some 4), none, (.mv (.t 61))⟩])
  .ret)))))))), [(.tmp 4)], [], true⟩
theorem fo151 : compF Tryz.prog 151 = some ⟨fe151.N, fe151.xc.er, fe151.rs⟩ := by kernel_rfl
theorem ox151 : okX fe151.xc = true := by kernel_rfl
theorem hb151 : hasBody Tryz.prog 151 = true := by kernel_rfl
theorem fk151 : FEOK Tryz.prog 151 fe151 := ⟨fo151, ox151, hb151⟩

/-- isohyet/mag.guess -/
def fe152 : FE := ⟨98, (.seq (.reg [] [⟨(some 4), none, (.mv (.k (.lit (.int .u64 0))))⟩])
  (.seq (.reg [] [⟨(some 11), none, (.mv (.t 1))⟩,
    ⟨(some 12), none, (.len (.t 11))⟩,
    ⟨(some 5), none, (.mv (.t 12))⟩])
  (.seq (.regd [] [[], [], [1], [0, 2], [3], [], [4, 5, 0, 1, 2, 3, 4, 5], [6, 0, 1, 2, 3, 4, 5, 6]] [(⟨(some 13), none, (.mv (.t 0))⟩, ⟨[], none, false, false⟩),
    (⟨(some 14), none, (.mv (.t 5))⟩, ⟨[], none, false, false⟩),
    (⟨(some 15), none, (.bin .sub (.t 14) (.k (.lit (.int .i64 1))))⟩, ⟨[], none, false, false⟩),
    (⟨(some 16), none, (.iad 1 (.t 13) (.t 15))⟩, ⟨[], none, false, false⟩),
    (⟨(some 17), none, (.ld false 1 (.t 16))⟩, ⟨[], none, true, false⟩),
    (⟨(some 6), none, (.mv (.k (.lit (.int .u64 18446744073709551615))))⟩, ⟨[], none, false, false⟩),
    (⟨(some 7), none, (.mv (.t 17))⟩, ⟨[], none, false, false⟩),
    (⟨(some 8), none, (.mv (.k (.lit (.int .u64 0))))⟩, ⟨[], none, false, false⟩)])
  (.seq (.seq (.regd [] [[], [], [0, 1], [2], [], [], [5], [4, 6], [7], [3, 8]] [(⟨(some 18), none, (.mv (.t 0))⟩, ⟨[], none, false, false⟩),
    (⟨(some 19), none, (.mv (.t 5))⟩, ⟨[], none, false, false⟩),
    (⟨(some 20), none, (.iad 1 (.t 18) (.t 19))⟩, ⟨[], none, false, false⟩),
    (⟨(some 21), none, (.ld false 1 (.t 20))⟩, ⟨[], none, true, false⟩),
    (⟨(some 22), none, (.mv (.t 1))⟩, ⟨[], none, false, false⟩),
    (⟨(some 23), none, (.mv (.t 5))⟩, ⟨[], none, false, false⟩),
    (⟨(some 24), none, (.bin .sub (.t 23) (.k (.lit (.int .i64 1))))⟩, ⟨[], none, false, false⟩),
    (⟨(some 25), none, (.iad 1 (.t 22) (.t 24))⟩, ⟨[], none, false, false⟩),
    (⟨(some 26), none, (.ld false 1 (.t 25))⟩, ⟨[], none, true, false⟩),
    (⟨(some 27), none, (.bin .lss (.t 21) (.t 26))⟩, ⟨[], none, false, false⟩)])
  (.cond (.t 27) (.regd [] [[], [], [0, 1], [2], [], [], [5], [4, 6], [7], [], [], [10], [9, 11], [12], [3, 8, 13], [14], [15], [15], [16, 14, 0, 1, 2, 3, 4, 5, 6, 7, 8, 9, 10, 11, 12, 13, 14, 15, 16], [17, 18, 0, 1, 2, 3, 4, 5, 6, 7, 8, 9, 10, 11, 12, 13, 14, 15, 16, 17, 18]] [(⟨(some 29), none, (.mv (.t 0))⟩, ⟨[], none, false, false⟩),
    (⟨(some 30), none, (.mv (.t 5))⟩, ⟨[], none, false, false⟩),
    (⟨(some 31), none, (.iad 1 (.t 29) (.t 30))⟩, ⟨[], none, false, false⟩),
    (⟨(some 32), none, (.ld false 1 (.t 31))⟩, ⟨[], none, true, false⟩),
    (⟨(some 33), none, (.mv (.t 0))⟩, ⟨[], none, false, false⟩),
    (⟨(some 34), none, (.mv (.t 5))⟩, ⟨[], none, false, false⟩),
    (⟨(some 35), none, (.bin .sub (.t 34) (.k (.lit (.int .i64 1))))⟩, ⟨[], none, false, false⟩),
    (⟨(some 36), none, (.iad 1 (.t 33) (.t 35))⟩, ⟨[], none, false, false⟩),
    (⟨(some 37), none, (.ld false 1 (.t 36))⟩, ⟨[], none, true, false⟩),
    (⟨(some 38), none, (.mv (.t 1))⟩, ⟨[], none, false, false⟩),
    (⟨(some 39), none, (.mv (.t 5))⟩, ⟨[], none, false, false⟩),
    (⟨(some 40), none, (.bin .sub (.t 39) (.k (.lit (.int .i64 1))))⟩, ⟨[], none, false, false⟩),
    (⟨(some 41), none, (.iad 1 (.t 38) (.t 40))⟩, ⟨[], none, false, false⟩),
    (⟨(some 42), none, (.ld false 1 (.t 41))⟩, ⟨[], none, true, false⟩),
    (⟨(some 43), none, (.call 171 [(.t 32), (.t 37), (.t 42)])⟩, ⟨[], none, true, false⟩),
    (⟨(some 28), none, (.mv (.t 43))⟩, ⟨[], none, false, false⟩),
    (⟨(some 44), none, (.ext (.t 28) 0)⟩, ⟨[], none, false, false⟩),
    (⟨(some 45), none, (.ext (.t 28) 1)⟩, ⟨[], none, false, false⟩),
    (⟨(some 6), none, (.mv (.t 44))⟩, ⟨[], none, false, false⟩),
    (⟨(some 7), none, (.mv (.t 45))⟩, ⟨[], none, false, false⟩)]) (.reg [] [⟨(some 47), none, (.mv (.t 7))⟩,
    ⟨(some 48), none, (.mv (.t 1))⟩,
    ⟨(some 49), none, (.mv (.t 5))⟩,
    ⟨(some 50), none, (.bin .sub (.t 49) (.k (.lit (.int .i64 1))))⟩,
    ⟨(some 51), none, (.iad 1 (.t 48) (.t 50))⟩,
    ⟨(some 52), none, (.ld false 1 (.t 51))⟩,
    ⟨(some 53), none, (.adc (.t 47) (.t 52) (.k (.lit (.int .u64 0))))⟩,
    ⟨(some 46), none, (.mv (.t 53))⟩,
    ⟨(some 54), none, (.ext (.t 46) 0)⟩,
    ⟨(some 55), none, (.ext (.t 46) 1)⟩,
    ⟨(some 7), none, (.mv (.t 54))⟩,
    ⟨(some 8), none, (.mv (.t 55))⟩])))
  (.seq (.block 0 (.loop (.seq (.seq (.reg [] [⟨(some 56), none, (.mv (.t 8))⟩,
    ⟨(some 57), none, (.bin .eql (.t 56) (.k (.lit (.int .u64 0))))⟩])
  (.cond (.t 57) .skip (.exit 0)))
  (.block 1 (.seq (.reg [] [⟨(some 59), none, (.mv (.t 6))⟩,
    ⟨(some 60), none, (.mv (.t 1))⟩,
    ⟨(some 61), none, (.mv (.t 5))⟩,
    ⟨(some 62), none, (.bin .sub (.t 61) (.k (.lit (.int .i64 2))))⟩,
    ⟨(some 63), none, (.iad 1 (.t 60) (.t 62))⟩,
    ⟨(some 64), none, (.ld false 1 (.t 63))⟩,
    ⟨(some 65), none, (.call 104 [(.t 59), (.t 64)])⟩,
    ⟨(some 58), none, (.mv (.t 65))⟩,
    ⟨(some 66), none, (.ext (.t 58) 0)⟩,
    ⟨(some 67), none, (.ext (.t 58) 1)⟩,
    ⟨(some 9), none, (.mv (.t 66))⟩,
    ⟨(some 10), none, (.mv (.t 67))⟩])
  (.seq (.seq (.reg [] [⟨(some 68), none, (.mv (.t 9))⟩,
    ⟨(some 69), none, (.mv (.t 7))⟩,
    ⟨(some 70), none, (.bin .lss (.t 68) (.t 69))⟩,
    ⟨(some 71), none, (.mv (.t 70))⟩,
    ⟨(some 72), (some (71, false)), (.mv (.t 9))⟩,
    ⟨(some 73), (some (71, false)), (.mv (.t 7))⟩,
    ⟨(some 74), (some (71, false)), (.bin .eql (.t 72) (.t 73))⟩,
    ⟨(some 75), (some (71, false)), (.mv (.t 74))⟩,
    ⟨(some 76), (some (75, true)), (.mv (.t 10))⟩,
    ⟨(some 77), (some (75, true)), (.mv (.t 0))⟩,
    ⟨(some 78), (some (75, true)), (.mv (.t 5))⟩,
    ⟨(some 79), (some (75, true)), (.bin .sub (.t 78) (.k (.lit (.int .i64 2))))⟩,
    ⟨(some 80), (some (75, true)), (.iad 1 (.t 77) (.t 79))⟩,
    ⟨(some 81), (some (75, true)), (.ld false 1 (.t 80))⟩,
    ⟨(some 82), (some (75, true)), (.bin .leq (.t 76) (.t 81))⟩,
    ⟨(some 83), (some (71, false)), (.pick (.t 75) (.t 82) (.k (.lit (.bool false))))⟩,
    ⟨(some 84), none, (.pick (.t 71) (.k (.lit (.bool true))) (.t 83))⟩])
  (.cond (.t 84) (.exit 0) .skip))
  (.seq (.reg [] [⟨(some 85), none, (.mv (.t 6))⟩,
    ⟨(some 86), none, (.bin .sub (.t 85) (.k (.lit (.int .u64 1))))⟩,
    ⟨(some 6), none, (.mv (.t 86))⟩])
  (.reg [] [⟨(some 88), none, (.mv (.t 7))⟩,
    ⟨(some 89), none, (.mv (.t 1))⟩,
    ⟨(some 90), none, (.mv (.t 5))⟩,
    ⟨(some 91), none, (.bin .sub (.t 90) (.k (.lit (.int .i64 1))))⟩,
    ⟨(some 92), none, (.iad 1 (.t 89) (.t 91))⟩,
    ⟨(some 93), none, (.ld false 1 (.t 92))⟩,
    ⟨(some 94), none, (.adc (.t 88) (.t 93) (.k (.lit (.int .u64 0))))⟩,
    ⟨(some 87), none, (.mv (.t 94))⟩,
    ⟨(some 95), none, (.ext (.t 87) 0)⟩,
    ⟨(some 96), none, (.ext (.t 87) 1)⟩,
    ⟨(some 7), none, (.mv (.t 95))⟩,
    ⟨(some 8), none, (.mv (.t 96))⟩]))))))))
  (.seq (.reg [] [⟨(some 97), none, (.mv (.t 6))⟩,
    ⟨(some 4), none, (.mv (.t 97))⟩])
  .ret)))))), [(.tmp 4)], [], true⟩
theorem fo152 : compF Tryz.prog 152 = some ⟨fe152.N, fe152.xc.er, fe152.rs⟩ := by kernel_rfl
theorem ox152 : okX fe152.xc = true := by kernel_rfl
theorem hb152 : hasBody Tryz.prog 152 = true := by kernel_rfl
theorem fk152 : FEOK Tryz.prog 152 fe152 := ⟨fo152, ox152, hb152⟩

/-- isohyet/mag.take -/
def fe153 : FE := ⟨68, (.seq (.reg [] [⟨(some 6), none, (.mv (.k (.lit (.bool false))))⟩])
  (.seq (.reg [] [⟨(some 7), none, (.mv (.k (.lit (.int .u64 0))))⟩,
    ⟨(some 8), none, (.mv (.k (.lit (.int .u64 0))))⟩])
  (.seq (.seq (.reg [] [⟨(some 15), none, (.mv (.t 1))⟩,
    ⟨(some 16), none, (.len (.t 15))⟩,
    ⟨(some 17), none, (.mv (.k (.lit (.int .i64 0))))⟩])
  (.block 0 (.loop (.seq (.reg [] [⟨(some 18), none, (.bin .lss (.t 17) (.t 16))⟩])
  (.seq (.cond (.t 18) .skip (.exit 0))
  (.seq (.block 1 (.seq (.reg [] [⟨(some 19), none, (.mv (.t 17))⟩,
    ⟨(some 20), none, (.iad 1 (.t 15) (.t 17))⟩,
    ⟨(some 21), none, (.ld false 1 (.t 20))⟩,
    ⟨(some 9), none, (.mv (.t 19))⟩,
    ⟨(some 10), none, (.mv (.t 21))⟩])
  (.seq (.reg [] [⟨(some 23), none, (.mv (.t 2))⟩,
    ⟨(some 24), none, (.mv (.t 10))⟩,
    ⟨(some 25), none, (.call 104 [(.t 23), (.t 24)])⟩,
    ⟨(some 22), none, (.mv (.t 25))⟩,
    ⟨(some 26), none, (.ext (.t 22) 0)⟩,
    ⟨(some 27), none, (.ext (.t 22) 1)⟩,
    ⟨(some 11), none, (.mv (.t 26))⟩,
    ⟨(some 12), none, (.mv (.t 27))⟩])
  (.seq (.reg [] [⟨(some 13), none, (.mv (.k (.lit (.int .u64 0))))⟩])
  (.seq (.reg [] [⟨(some 29), none, (.mv (.t 12))⟩,
    ⟨(some 30), none, (.mv (.t 7))⟩,
    ⟨(some 31), none, (.adc (.t 29) (.t 30) (.k (.lit (.int .u64 0))))⟩,
    ⟨(some 28), none, (.mv (.t 31))⟩,
    ⟨(some 32), none, (.ext (.t 28) 0)⟩,
    ⟨(some 33), none, (.ext (.t 28) 1)⟩,
    ⟨(some 12), none, (.mv (.t 32))⟩,
    ⟨(some 13), none, (.mv (.t 33))⟩])
  (.seq (.reg [] [⟨(some 34), none, (.mv (.t 11))⟩,
    ⟨(some 35), none, (.mv (.t 13))⟩,
    ⟨(some 36), none, (.bin .add (.t 34) (.t 35))⟩,
    ⟨(some 7), none, (.mv (.t 36))⟩])
  (.reg [] [⟨(some 38), none, (.mv (.t 0))⟩,
    ⟨(some 39), none, (.mv (.t 9))⟩,
    ⟨(some 40), none, (.mv (.t 0))⟩,
    ⟨(some 41), none, (.mv (.t 9))⟩,
    ⟨(some 42), none, (.iad 1 (.t 40) (.t 41))⟩,
    ⟨(some 43), none, (.ld false 1 (.t 42))⟩,
    ⟨(some 44), none, (.mv (.t 12))⟩,
    ⟨(some 45), none, (.mv (.t 8))⟩,
    ⟨(some 46), none, (.sbb (.t 43) (.t 44) (.t 45))⟩,
    ⟨(some 37), none, (.mv (.t 46))⟩,
    ⟨(some 47), none, (.ext (.t 37) 0)⟩,
    ⟨(some 48), none, (.ext (.t 37) 1)⟩,
    ⟨(some 49), none, (.iad 1 (.t 38) (.t 39))⟩,
    ⟨none, none, (.st 1 (.t 49) (.t 47))⟩,
    ⟨(some 8), none, (.mv (.t 48))⟩])))))))
  (.reg [] [⟨(some 50), none, (.bin .add (.t 17) (.k (.lit (.int .i64 1))))⟩,
    ⟨(some 17), none, (.mv (.t 50))⟩])))))))
  (.seq (.reg [] [⟨(some 51), none, (.mv (.t 1))⟩,
    ⟨(some 52), none, (.len (.t 51))⟩,
    ⟨(some 14), none, (.mv (.t 52))⟩])
  (.seq (.reg [] [⟨(some 54), none, (.mv (.t 0))⟩,
    ⟨(some 55), none, (.mv (.t 14))⟩,
    ⟨(some 56), none, (.mv (.t 0))⟩,
    ⟨(some 57), none, (.mv (.t 14))⟩,
    ⟨(some 58), none, (.iad 1 (.t 56) (.t 57))⟩,
    ⟨(some 59), none, (.ld false 1 (.t 58))⟩,
    ⟨(some 60), none, (.mv (.t 7))⟩,
    ⟨(some 61), none, (.mv (.t 8))⟩,
    ⟨(some 62), none, (.sbb (.t 59) (.t 60) (.t 61))⟩,
    ⟨(some 53), none, (.mv (.t 62))⟩,
    ⟨(some 63), none, (.ext (.t 53) 0)⟩,
    ⟨(some 64), none, (.ext (.t 53) 1)⟩,
    ⟨(some 65), none, (.iad 1 (.t 54) (.t 55))⟩,
    ⟨none, none, (.st 1 (.t 65) (.t 63))⟩,
    ⟨(some 8), none, (.mv (.t 64))⟩])
  (.seq (.reg [] [⟨(some 66), none, (.mv (.t 8))⟩,
    ⟨(some 67), none, (.bin .gtr (.t 66) (.k (.lit (.int .u64 0))))⟩,
    ⟨(some 6), none, (.mv (.t 67))⟩])
  .ret)))))), [(.tmp 6)], [], true⟩
theorem fo153 : compF Tryz.prog 153 = some ⟨fe153.N, fe153.xc.er, fe153.rs⟩ := by kernel_rfl
theorem ox153 : okX fe153.xc = true := by kernel_rfl
theorem hb153 : hasBody Tryz.prog 153 = true := by kernel_rfl
theorem fk153 : FEOK Tryz.prog 153 fe153 := ⟨fo153, ox153, hb153⟩

/-- isohyet/mag.give -/
def fe154 : FE := ⟨36, (.seq (.reg [] [⟨(some 4), none, (.mv (.k (.lit (.int .u64 0))))⟩])
  (.seq (.seq (.reg [] [⟨(some 7), none, (.mv (.t 1))⟩,
    ⟨(some 8), none, (.len (.t 7))⟩,
    ⟨(some 9), none, (.mv (.k (.lit (.int .i64 0))))⟩])
  (.block 0 (.loop (.seq (.reg [] [⟨(some 10), none, (.bin .lss (.t 9) (.t 8))⟩])
  (.seq (.cond (.t 10) .skip (.exit 0))
  (.seq (.block 1 (.seq (.reg [] [⟨(some 11), none, (.mv (.t 9))⟩,
    ⟨(some 12), none, (.iad 1 (.t 7) (.t 9))⟩,
    ⟨(some 13), none, (.ld false 1 (.t 12))⟩,
    ⟨(some 5), none, (.mv (.t 11))⟩,
    ⟨(some 6), none, (.mv (.t 13))⟩])
  (.reg [] [⟨(some 15), none, (.mv (.t 0))⟩,
    ⟨(some 16), none, (.mv (.t 5))⟩,
    ⟨(some 17), none, (.mv (.t 0))⟩,
    ⟨(some 18), none, (.mv (.t 5))⟩,
    ⟨(some 19), none, (.iad 1 (.t 17) (.t 18))⟩,
    ⟨(some 20), none, (.ld false 1 (.t 19))⟩,
    ⟨(some 21), none, (.mv (.t 6))⟩,
    ⟨(some 22), none, (.mv (.t 4))⟩,
    ⟨(some 23), none, (.adc (.t 20) (.t 21) (.t 22))⟩,
    ⟨(some 14), none, (.mv (.t 23))⟩,
    ⟨(some 24), none, (.ext (.t 14) 0)⟩,
    ⟨(some 25), none, (.ext (.t 14) 1)⟩,
    ⟨(some 26), none, (.iad 1 (.t 15) (.t 16))⟩,
    ⟨none, none, (.st 1 (.t 26) (.t 24))⟩,
    ⟨(some 4), none, (.mv (.t 25))⟩])))
  (.reg [] [⟨(some 27), none, (.bin .add (.t 9) (.k (.lit (.int .i64 1))))⟩,
    ⟨(some 9), none, (.mv (.t 27))⟩])))))))
  (.reg [] [⟨(some 28), none, (.mv (.t 0))⟩,
    ⟨(some 29), none, (.mv (.t 1))⟩,
    ⟨(some 30), none, (.len (.t 29))⟩,
    ⟨(some 31), none, (.iad 1 (.t 28) (.t 30))⟩,
    ⟨(some 32), none, (.ld false 1 (.t 31))⟩,
    ⟨(some 33), none, (.mv (.t 4))⟩,
    ⟨(some 34), none, (.bin .add (.t 32) (.t 33))⟩,
    ⟨(some 35), none, (.iad 1 (.t 28) (.t 30))⟩,
    ⟨none, none, (.st 1 (.t 35) (.t 34))⟩]))), [], [], true⟩
theorem fo154 : compF Tryz.prog 154 = some ⟨fe154.N, fe154.xc.er, fe154.rs⟩ := by kernel_rfl
theorem ox154 : okX fe154.xc = true := by kernel_rfl
theorem hb154 : hasBody Tryz.prog 154 = true := by kernel_rfl
theorem fk154 : FEOK Tryz.prog 154 fe154 := ⟨fo154, ox154, hb154⟩

/-- isohyet/mag.Down -/
def fe155 : FE := ⟨68, (.seq (.reg [] [⟨(some 4), none, (.mv (.k (.lit (.slice none 0 0))))⟩])
  (.seq (.reg [] [⟨(some 9), none, (.mv (.t 1))⟩,
    ⟨(some 10), none, (.mnx true [(.t 9), (.k (.lit (.int .i64 0)))])⟩,
    ⟨(some 11), none, (.mnx false [(.t 10), (.k (.lit (.int .i64 8192)))])⟩,
    ⟨(some 1), none, (.mv (.t 11))⟩])
  (.seq (.reg [] [⟨(some 12), none, (.mv (.t 0))⟩,
    ⟨(some 13), none, (.call 106 [(.t 12)])⟩,
    ⟨(some 0), none, (.mv (.t 13))⟩])
  (.seq (.seq (.reg [] [⟨(some 14), none, (.mv (.t 1))⟩,
    ⟨(some 15), none, (.bin .quo (.t 14) (.k (.lit (.int .i64 64))))⟩,
    ⟨(some 16), none, (.mv (.t 0))⟩,
    ⟨(some 17), none, (.len (.t 16))⟩,
    ⟨(some 18), none, (.bin .geq (.t 15) (.t 17))⟩])
  (.cond (.t 18) (.seq (.reg [] [⟨(some 4), none, (.mv (.k (.lit (.slice none 0 0))))⟩])
  .ret) .skip))
  (.seq (.reg [] [⟨(some 19), none, (.mv (.t 0))⟩,
    ⟨(some 20), none, (.mv (.t 1))⟩,
    ⟨(some 21), none, (.bin .quo (.t 20) (.k (.lit (.int .i64 64))))⟩,
    ⟨(some 22), none, (.sls 1 (.t 19) (some (.t 21)) none)⟩,
    ⟨(some 0), none, (.mv (.t 22))⟩])
  (.seq (.reg [] [⟨(some 23), none, (.mv (.t 1))⟩,
    ⟨(some 24), none, (.bin .rem (.t 23) (.k (.lit (.int .i64 64))))⟩,
    ⟨(some 25), none, (.cv .u64 (.t 24))⟩,
    ⟨(some 5), none, (.mv (.t 25))⟩])
  (.seq (.reg [] [⟨(some 26), none, (.mv (.t 0))⟩,
    ⟨(some 27), none, (.len (.t 26))⟩,
    ⟨(some 28), none, (.mks 1 8 [(.lit (.int .u64 0))] (.t 27) (.t 27))⟩,
    ⟨(some 6), none, (.mv (.t 28))⟩])
  (.seq (.seq (.reg [] [⟨(some 29), none, (.mv (.t 0))⟩,
    ⟨(some 30), none, (.len (.t 29))⟩,
    ⟨(some 31), none, (.mv (.k (.lit (.int .i64 0))))⟩])
  (.block 0 (.loop (.seq (.reg [] [⟨(some 32), none, (.bin .lss (.t 31) (.t 30))⟩])
  (.seq (.cond (.t 32) .skip (.exit 0))
  (.seq (.block 1 (.seq (.reg [] [⟨(some 33), none, (.mv (.t 31))⟩,
    ⟨(some 34), none, (.iad 1 (.t 29) (.t 31))⟩,
    ⟨(some 35), none, (.ld false 1 (.t 34))⟩,
    ⟨(some 7), none, (.mv (.t 33))⟩,
    ⟨(some 8), none, (.mv (.t 35))⟩])
  (.seq (.reg [] [⟨(some 36), none, (.mv (.t 6))⟩,
    ⟨(some 37), none, (.mv (.t 7))⟩,
    ⟨(some 38), none, (.mv (.t 8))⟩,
    ⟨(some 39), none, (.mv (.t 5))⟩,
    ⟨(some 40), none, (.bin .shr (.t 38) (.t 39))⟩,
    ⟨(some 41), none, (.iad 1 (.t 36) (.t 37))⟩,
    ⟨none, none, (.st 1 (.t 41) (.t 40))⟩])
  (.seq (.reg [] [⟨(some 42), none, (.mv (.t 5))⟩,
    ⟨(some 43), none, (.bin .gtr (.t 42) (.k (.lit (.int .u64 0))))⟩,
    ⟨(some 44), none, (.mv (.t 43))⟩,
    ⟨(some 45), (some (44, true)), (.mv (.t 7))⟩,
    ⟨(some 46), (some (44, true)), (.bin .add (.t 45) (.k (.lit (.int .i64 1))))⟩,
    ⟨(some 47), (some (44, true)), (.mv (.t 0))⟩,
    ⟨(some 48), (some (44, true)), (.len (.t 47))⟩,
    ⟨(some 49), (some (44, true)), (.bin .lss (.t 46) (.t 48))⟩,
    ⟨(some 50), none, (.pick (.t 44) (.t 49) (.k (.lit (.bool false))))⟩])
  (.cond (.t 50) (.regd [] [[], [], [0, 1], [2], [], [], [5], [4, 6], [7], [], [9], [8, 10], [3, 11], [0, 1, 0, 1, 2, 3, 4, 5, 6, 7, 8, 9, 10, 11, 12], [13, 12, 0, 1, 2, 3, 4, 5, 6, 7, 8, 9, 10, 11, 12]] [(⟨(some 51), none, (.mv (.t 6))⟩, ⟨[], none, false, false⟩),
    (⟨(some 52), none, (.mv (.t 7))⟩, ⟨[], none, false, false⟩),
    (⟨(some 53), none, (.iad 1 (.t 51) (.t 52))⟩, ⟨[], none, false, false⟩),
    (⟨(some 54), none, (.ld false 1 (.t 53))⟩, ⟨[], none, true, false⟩),
    (⟨(some 55), none, (.mv (.t 0))⟩, ⟨[], none, false, false⟩),
    (⟨(some 56), none, (.mv (.t 7))⟩, ⟨[], none, false, false⟩),
    (⟨(some 57), none, (.bin .add (.t 56) (.k (.lit (.int .i64 1))))⟩, ⟨[], none, false, false⟩),
    (⟨(some 58), none, (.iad 1 (.t 55) (.t 57))⟩, ⟨[], none, false, false⟩),
    (⟨(some 59), none, (.ld false 1 (.t 58))⟩, ⟨[], none, true, false⟩),
    (⟨(some 60), none, (.mv (.t 5))⟩, ⟨[], none, false, false⟩),
    (⟨(some 61), none, (.bin .sub (.k (.lit (.int .u64 64))) (.t 60))⟩, ⟨[], none, false, false⟩),
    (⟨(some 62), none, (.bin .shl (.t 59) (.t 61))⟩, ⟨[], none, false, false⟩),
    (⟨(some 63), none, (.bin .or (.t 54) (.t 62))⟩, ⟨[], none, false, false⟩),
    (⟨(some 64), none, (.iad 1 (.t 51) (.t 52))⟩, ⟨[], none, false, false⟩),
    (⟨none, none, (.st 1 (.t 64) (.t 63))⟩, ⟨[], none, true, true⟩)]) .skip)))))
  (.reg [] [⟨(some 65), none, (.bin .add (.t 31) (.k (.lit (.int .i64 1))))⟩,
    ⟨(some 31), none, (.mv (.t 65))⟩])))))))
  (.seq (.reg [] [⟨(some 66), none, (.mv (.t 6))⟩,
    ⟨(some 67), none, (.call 106 [(.t 66)])⟩,
    ⟨(some 4), none, (.mv (.t 67))⟩])
  .ret))))))))), [(.tmp 4)], [], true⟩
theorem fo155 : compF Tryz.prog 155 = some ⟨fe155.N, fe155.xc.er, fe155.rs⟩ := by kernel_rfl
theorem ox155 : okX fe155.xc = true := by kernel_rfl
theorem hb155 : hasBody Tryz.prog 155 = true := by kernel_rfl
theorem fk155 : FEOK Tryz.prog 155 fe155 := ⟨fo155, ox155, hb155⟩

/-- isohyet/walk.first -/
def fe159 : FE := ⟨9, (.seq (.reg [] [⟨(some 2), none, (.new [(.lit (.int .i64 0))])⟩])
  (.seq (.seq (.reg [] [⟨(some 4), none, (.mv (.t 0))⟩,
    ⟨(some 5), none, (.call 75 [(.t 4)])⟩])
  (.block 0 (.rng (.t 5) [6, 7] (.reg [] [⟨(some 3), none, (.mv (.t 6))⟩]) (.block 1 (.seq (.reg [] [⟨(some 8), none, (.mv (.t 3))⟩,
    ⟨none, none, (.st 1 (.t 2) (.t 8))⟩])
  .ret)))))
  (.seq (.reg [] [⟨none, none, (.st 1 (.t 2) (.k (.lit (.int .i64 (-1)))))⟩])
  .ret))), [(.cell 2 false 1)], [2], true⟩
theorem fo159 : compF Tryz.prog 159 = some ⟨fe159.N, fe159.xc.er, fe159.rs⟩ := by kernel_rfl
theorem ox159 : okX fe159.xc = true := by kernel_rfl
theorem hb159 : hasBody Tryz.prog 159 = true := by kernel_rfl
theorem fk159 : FEOK Tryz.prog 159 fe159 := ⟨fo159, ox159, hb159⟩

/-- isohyet/wide.Times -/
def fe162 : FE := ⟨76, (.seq (.reg [2, 4] [⟨(some 2), none, (.box (.t 0))⟩,
    ⟨(some 4), none, (.new [(.lit (.int .u64 0)), (.lit (.int .u64 0))])⟩,
    ⟨(some 5), none, (.mv (.k (.lit (.bool false))))⟩])
  (.seq (.reg [] [⟨(some 14), none, (.ld true 2 (.t 2))⟩,
    ⟨(some 15), none, (.call 147 [(.t 14)])⟩,
    ⟨(some 16), none, (.mv (.t 1))⟩,
    ⟨(some 17), none, (.bin .lss (.t 16) (.k (.lit (.int .i64 0))))⟩,
    ⟨(some 18), none, (.eqb true (.t 15) (.t 17))⟩,
    ⟨(some 6), none, (.mv (.t 18))⟩])
  (.seq (.seq (.reg [] [⟨(some 19), none, (.ld true 2 (.t 2))⟩,
    ⟨(some 20), none, (.call 147 [(.t 19)])⟩])
  (.cond (.t 20) (.reg [] [⟨(some 21), none, (.ld true 2 (.t 2))⟩,
    ⟨(some 22), none, (.call 148 [(.t 21)])⟩,
    ⟨none, none, (.st 2 (.t 2) (.t 22))⟩]) .skip))
  (.seq (.reg [] [⟨(some 23), none, (.mv (.t 1))⟩,
    ⟨(some 24), none, (.call 149 [(.t 23)])⟩,
    ⟨(some 7), none, (.mv (.t 24))⟩])
  (.seq (.reg [] [⟨(some 26), none, (.fad 0 (.t 2))⟩,
    ⟨(some 27), none, (.ld false 1 (.t 26))⟩,
    ⟨(some 28), none, (.mv (.t 7))⟩,
    ⟨(some 29), none, (.call 104 [(.t 27), (.t 28)])⟩,
    ⟨(some 25), none, (.mv (.t 29))⟩,
    ⟨(some 30), none, (.ext (.t 25) 0)⟩,
    ⟨(some 31), none, (.ext (.t 25) 1)⟩,
    ⟨(some 8), none, (.mv (.t 30))⟩,
    ⟨(some 9), none, (.mv (.t 31))⟩])
  (.seq (.reg [] [⟨(some 33), none, (.fad 1 (.t 2))⟩,
    ⟨(some 34), none, (.ld false 1 (.t 33))⟩,
    ⟨(some 35), none, (.mv (.t 7))⟩,
    ⟨(some 36), none, (.call 104 [(.t 34), (.t 35)])⟩,
    ⟨(some 32), none, (.mv (.t 36))⟩,
    ⟨(some 37), none, (.ext (.t 32) 0)⟩,
    ⟨(some 38), none, (.ext (.t 32) 1)⟩,
    ⟨(some 10), none, (.mv (.t 37))⟩,
    ⟨(some 11), none, (.mv (.t 38))⟩])
  (.seq (.reg [] [⟨(some 40), none, (.mv (.t 9))⟩,
    ⟨(some 41), none, (.mv (.t 10))⟩,
    ⟨(some 42), none, (.adc (.t 40) (.t 41) (.k (.lit (.int .u64 0))))⟩,
    ⟨(some 39), none, (.mv (.t 42))⟩,
    ⟨(some 43), none, (.ext (.t 39) 0)⟩,
    ⟨(some 44), none, (.ext (.t 39) 1)⟩,
    ⟨(some 9), none, (.mv (.t 43))⟩,
    ⟨(some 12), none, (.mv (.t 44))⟩])
  (.seq (.reg [13] [⟨(some 45), none, (.mv (.t 9))⟩,
    ⟨(some 46), none, (.mv (.t 11))⟩,
    ⟨(some 47), none, (.bld [(.lit (.int .u64 0)), (.lit (.int .u64 0))] [(0, (1, (.t 45))), (1, (1, (.t 46)))])⟩,
    ⟨(some 13), none, (.new [(.lit (.int .u64 0)), (.lit (.int .u64 0))])⟩,
    ⟨none, none, (.st 2 (.t 13) (.t 47))⟩])
  (.seq (.block 0 (.seq (.reg [] [⟨(some 49), none, (.mv (.t 8))⟩,
    ⟨(some 50), none, (.mv (.t 12))⟩,
    ⟨(some 51), none, (.bin .add (.t 49) (.t 50))⟩,
    ⟨(some 52), none, (.bin .gtr (.t 51) (.k (.lit (.int .u64 0))))⟩,
    ⟨(some 48), none, (.mv (.t 52))⟩])
  (.cond (.t 48) (.seq (.reg [] [⟨(some 53), none, (.bld [(.lit (.int .u64 0)), (.lit (.int .u64 0))] [])⟩,
    ⟨none, none, (.st 2 (.t 4) (.t 53))⟩,
    ⟨(some 5), none, (.mv (.k (.lit (.bool false))))⟩])
  .ret) (.seq (.reg [] [⟨(some 55), none, (.mv (.t 6))⟩,
    ⟨(some 54), none, (.mv (.t 55))⟩])
  (.cond (.t 54) (.seq (.reg [] [⟨(some 56), none, (.ld true 2 (.t 13))⟩,
    ⟨(some 57), none, (.call 148 [(.t 56)])⟩,
    ⟨none, none, (.st 2 (.t 13) (.t 57))⟩])
  (.seq (.regd [] [[], [], [1], [2, 2], [3], [3], [4, 5, 3], [3, 6], [0, 7, 3], [8], [8], [9, 8, 0, 1, 2, 3, 4, 5, 6, 7, 8, 9, 10], [10, 11, 0, 1, 2, 3, 4, 5, 6, 7, 8, 9, 10, 11]] [(⟨(some 58), none, (.ld true 2 (.t 13))⟩, ⟨[13], none, false, false⟩),
    (⟨(some 59), none, (.ld true 2 (.t 13))⟩, ⟨[13], none, false, false⟩),
    (⟨(some 60), none, (.call 147 [(.t 59)])⟩, ⟨[], none, true, false⟩),
    (⟨(some 61), none, (.mv (.t 60))⟩, ⟨[], none, false, false⟩),
    (⟨(some 62), (some (61, false)), (.ld true 2 (.t 13))⟩, ⟨[13], none, false, false⟩),
    (⟨(some 63), (some (61, false)), (.bld [(.lit (.int .u64 0)), (.lit (.int .u64 0))] [])⟩, ⟨[], none, false, false⟩),
    (⟨(some 64), (some (61, false)), (.eqc false [true, true] (.t 62) (.t 63))⟩, ⟨[], none, false, false⟩),
    (⟨(some 65), none, (.pick (.t 61) (.k (.lit (.bool true))) (.t 64))⟩, ⟨[], none, false, false⟩),
    (⟨(some 66), none, (.call 173 [(.t 58), (.t 65)])⟩, ⟨[], none, true, false⟩),
    (⟨(some 67), none, (.ext (.t 66) 0)⟩, ⟨[], none, false, false⟩),
    (⟨(some 68), none, (.ext (.t 66) 1)⟩, ⟨[], none, false, false⟩),
    (⟨none, none, (.st 2 (.t 4) (.t 67))⟩, ⟨[4], some 4, false, false⟩),
    (⟨(some 5), none, (.mv (.t 68))⟩, ⟨[], none, false, false⟩)])
  .ret)) .skip)))))
  (.seq (.regd [] [[], [], [1], [2], [0, 3, 2], [4], [4], [5, 4, 0, 1, 2, 3, 4, 5, 6], [6, 7, 0, 1, 2, 3, 4, 5, 6, 7]] [(⟨(some 69), none, (.ld true 2 (.t 13))⟩, ⟨[13], none, false, false⟩),
    (⟨(some 70), none, (.ld true 2 (.t 13))⟩, ⟨[13], none, false, false⟩),
    (⟨(some 71), none, (.call 147 [(.t 70)])⟩, ⟨[], none, true, false⟩),
    (⟨(some 72), none, (.un .not (.t 71))⟩, ⟨[], none, false, false⟩),
    (⟨(some 73), none, (.call 173 [(.t 69), (.t 72)])⟩, ⟨[], none, true, false⟩),
    (⟨(some 74), none, (.ext (.t 73) 0)⟩, ⟨[], none, false, false⟩),
    (⟨(some 75), none, (.ext (.t 73) 1)⟩, ⟨[], none, false, false⟩),
    (⟨none, none, (.st 2 (.t 4) (.t 74))⟩, ⟨[4], some 4, false, false⟩),
    (⟨(some 5), none, (.mv (.t 75))⟩, ⟨[], none, false, false⟩)])
  .ret)))))))))), [(.cell 4 true 2), (.tmp 5)], [], true⟩
theorem fo162 : compF Tryz.prog 162 = some ⟨fe162.N, fe162.xc.er, fe162.rs⟩ := by kernel_rfl
theorem ox162 : okX fe162.xc = true := by kernel_rfl
theorem hb162 : hasBody Tryz.prog 162 = true := by kernel_rfl
theorem fk162 : FEOK Tryz.prog 162 fe162 := ⟨fo162, ox162, hb162⟩

/-- isohyet/wide.Add -/
def fe163 : FE := ⟨45, (.seq (.reg [2, 3, 4] [⟨(some 2), none, (.box (.t 0))⟩,
    ⟨(some 3), none, (.box (.t 1))⟩,
    ⟨(some 4), none, (.new [(.lit (.int .u64 0)), (.lit (.int .u64 0))])⟩,
    ⟨(some 5), none, (.mv (.k (.lit (.bool false))))⟩])
  (.seq (.reg [] [⟨(some 12), none, (.fad 1 (.t 2))⟩,
    ⟨(some 13), none, (.ld false 1 (.t 12))⟩,
    ⟨(some 14), none, (.fad 1 (.t 3))⟩,
    ⟨(some 15), none, (.ld false 1 (.t 14))⟩,
    ⟨(some 16), none, (.adc (.t 13) (.t 15) (.k (.lit (.int .u64 0))))⟩,
    ⟨(some 11), none, (.mv (.t 16))⟩,
    ⟨(some 17), none, (.ext (.t 11) 0)⟩,
    ⟨(some 18), none, (.ext (.t 11) 1)⟩,
    ⟨(some 6), none, (.mv (.t 17))⟩,
    ⟨(some 7), none, (.mv (.t 18))⟩])
  (.seq (.reg [] [⟨(some 20), none, (.fad 0 (.t 2))⟩,
    ⟨(some 21), none, (.ld false 1 (.t 20))⟩,
    ⟨(some 22), none, (.fad 0 (.t 3))⟩,
    ⟨(some 23), none, (.ld false 1 (.t 22))⟩,
    ⟨(some 24), none, (.mv (.t 7))⟩,
    ⟨(some 25), none, (.adc (.t 21) (.t 23) (.t 24))⟩,
    ⟨(some 19), none, (.mv (.t 25))⟩,
    ⟨(some 26), none, (.ext (.t 19) 0)⟩,
    ⟨(some 27), none, (.ext (.t 19) 1)⟩,
    ⟨(some 8), none, (.mv (.t 26))⟩,
    ⟨(some 9), none, (.mv (.t 27))⟩])
  (.seq (.reg [10] [⟨(some 28), none, (.mv (.t 8))⟩,
    ⟨(some 29), none, (.mv (.t 6))⟩,
    ⟨(some 30), none, (.bld [(.lit (.int .u64 0)), (.lit (.int .u64 0))] [(0, (1, (.t 28))), (1, (1, (.t 29)))])⟩,
    ⟨(some 10), none, (.new [(.lit (.int .u64 0)), (.lit (.int .u64 0))])⟩,
    ⟨none, none, (.st 2 (.t 10) (.t 30))⟩])
  (.seq (.seq (.regd [] [[], [0], [], [2, 1], [1, 3], [4, 3], [5], [6, 5, 5], [5], [8, 7, 5], [7, 9, 5], [5, 10]] [(⟨(some 31), none, (.ld true 2 (.t 2))⟩, ⟨[2], none, false, false⟩),
    (⟨(some 32), none, (.call 147 [(.t 31)])⟩, ⟨[], none, true, false⟩),
    (⟨(some 33), none, (.ld true 2 (.t 3))⟩, ⟨[3], none, false, false⟩),
    (⟨(some 34), none, (.call 147 [(.t 33)])⟩, ⟨[], none, true, false⟩),
    (⟨(some 35), none, (.eqb false (.t 32) (.t 34))⟩, ⟨[], none, false, false⟩),
    (⟨(some 36), none, (.mv (.t 35))⟩, ⟨[], none, false, false⟩),
    (⟨(some 37), (some (36, true)), (.ld true 2 (.t 10))⟩, ⟨[10], none, false, false⟩),
    (⟨(some 38), (some (36, true)), (.call 147 [(.t 37)])⟩, ⟨[], none, true, false⟩),
    (⟨(some 39), (some (36, true)), (.ld true 2 (.t 2))⟩, ⟨[2], none, false, false⟩),
    (⟨(some 40), (some (36, true)), (.call 147 [(.t 39)])⟩, ⟨[], none, true, false⟩),
    (⟨(some 41), (some (36, true)), (.eqb true (.t 38) (.t 40))⟩, ⟨[], none, false, false⟩),
    (⟨(some 42), none, (.pick (.t 36) (.t 41) (.k (.lit (.bool false))))⟩, ⟨[], none, false, false⟩)])
  (.cond (.t 42) (.seq (.reg [] [⟨(some 43), none, (.bld [(.lit (.int .u64 0)), (.lit (.int .u64 0))] [])⟩,
    ⟨none, none, (.st 2 (.t 4) (.t 43))⟩,
    ⟨(some 5), none, (.mv (.k (.lit (.bool false))))⟩])
  .ret) .skip))
  (.seq (.reg [] [⟨(some 44), none, (.ld true 2 (.t 10))⟩,
    ⟨none, none, (.st 2 (.t 4) (.t 44))⟩,
    ⟨(some 5), none, (.mv (.k (.lit (.bool true))))⟩])
  .ret)))))), [(.cell 4 true 2), (.tmp 5)], [], true⟩
theorem fo163 : compF Tryz.prog 163 = some ⟨fe163.N, fe163.xc.er, fe163.rs⟩ := by kernel_rfl
theorem ox163 : okX fe163.xc = true := by kernel_rfl
theorem hb163 : hasBody Tryz.prog 163 = true := by kernel_rfl
theorem fk163 : FEOK Tryz.prog 163 fe163 := ⟨fo163, ox163, hb163⟩

/-- isohyet/wide.Sub -/
def fe164 : FE := ⟨45, (.seq (.reg [2, 3, 4] [⟨(some 2), none, (.box (.t 0))⟩,
    ⟨(some 3), none, (.box (.t 1))⟩,
    ⟨(some 4), none, (.new [(.lit (.int .u64 0)), (.lit (.int .u64 0))])⟩,
    ⟨(some 5), none, (.mv (.k (.lit (.bool false))))⟩])
  (.seq (.reg [] [⟨(some 12), none, (.fad 1 (.t 2))⟩,
    ⟨(some 13), none, (.ld false 1 (.t 12))⟩,
    ⟨(some 14), none, (.fad 1 (.t 3))⟩,
    ⟨(some 15), none, (.ld false 1 (.t 14))⟩,
    ⟨(some 16), none, (.sbb (.t 13) (.t 15) (.k (.lit (.int .u64 0))))⟩,
    ⟨(some 11), none, (.mv (.t 16))⟩,
    ⟨(some 17), none, (.ext (.t 11) 0)⟩,
    ⟨(some 18), none, (.ext (.t 11) 1)⟩,
    ⟨(some 6), none, (.mv (.t 17))⟩,
    ⟨(some 7), none, (.mv (.t 18))⟩])
  (.seq (.reg [] [⟨(some 20), none, (.fad 0 (.t 2))⟩,
    ⟨(some 21), none, (.ld false 1 (.t 20))⟩,
    ⟨(some 22), none, (.fad 0 (.t 3))⟩,
    ⟨(some 23), none, (.ld false 1 (.t 22))⟩,
    ⟨(some 24), none, (.mv (.t 7))⟩,
    ⟨(some 25), none, (.sbb (.t 21) (.t 23) (.t 24))⟩,
    ⟨(some 19), none, (.mv (.t 25))⟩,
    ⟨(some 26), none, (.ext (.t 19) 0)⟩,
    ⟨(some 27), none, (.ext (.t 19) 1)⟩,
    ⟨(some 8), none, (.mv (.t 26))⟩,
    ⟨(some 9), none, (.mv (.t 27))⟩])
  (.seq (.reg [10] [⟨(some 28), none, (.mv (.t 8))⟩,
    ⟨(some 29), none, (.mv (.t 6))⟩,
    ⟨(some 30), none, (.bld [(.lit (.int .u64 0)), (.lit (.int .u64 0))] [(0, (1, (.t 28))), (1, (1, (.t 29)))])⟩,
    ⟨(some 10), none, (.new [(.lit (.int .u64 0)), (.lit (.int .u64 0))])⟩,
    ⟨none, none, (.st 2 (.t 10) (.t 30))⟩])
  (.seq (.seq (.regd [] [[], [0], [], [2, 1], [1, 3], [4, 3], [5], [6, 5, 5], [5], [8, 7, 5], [7, 9, 5], [5, 10]] [(⟨(some 31), none, (.ld true 2 (.t 2))⟩, ⟨[2], none, false, false⟩),
    (⟨(some 32), none, (.call 147 [(.t 31)])⟩, ⟨[], none, true, false⟩),
    (⟨(some 33), none, (.ld true 2 (.t 3))⟩, ⟨[3], none, false, false⟩),
    (⟨(some 34), none, (.call 147 [(.t 33)])⟩, ⟨[], none, true, false⟩),
    (⟨(some 35), none, (.eqb true (.t 32) (.t 34))⟩, ⟨[], none, false, false⟩),
    (⟨(some 36), none, (.mv (.t 35))⟩, ⟨[], none, false, false⟩),
    (⟨(some 37), (some (36, true)), (.ld true 2 (.t 10))⟩, ⟨[10], none, false, false⟩),
    (⟨(some 38), (some (36, true)), (.call 147 [(.t 37)])⟩, ⟨[], none, true, false⟩),
    (⟨(some 39), (some (36, true)), (.ld true 2 (.t 2))⟩, ⟨[2], none, false, false⟩),
    (⟨(some 40), (some (36, true)), (.call 147 [(.t 39)])⟩, ⟨[], none, true, false⟩),
    (⟨(some 41), (some (36, true)), (.eqb true (.t 38) (.t 40))⟩, ⟨[], none, false, false⟩),
    (⟨(some 42), none, (.pick (.t 36) (.t 41) (.k (.lit (.bool false))))⟩, ⟨[], none, false, false⟩)])
  (.cond (.t 42) (.seq (.reg [] [⟨(some 43), none, (.bld [(.lit (.int .u64 0)), (.lit (.int .u64 0))] [])⟩,
    ⟨none, none, (.st 2 (.t 4) (.t 43))⟩,
    ⟨(some 5), none, (.mv (.k (.lit (.bool false))))⟩])
  .ret) .skip))
  (.seq (.reg [] [⟨(some 44), none, (.ld true 2 (.t 10))⟩,
    ⟨none, none, (.st 2 (.t 4) (.t 44))⟩,
    ⟨(some 5), none, (.mv (.k (.lit (.bool true))))⟩])
  .ret)))))), [(.cell 4 true 2), (.tmp 5)], [], true⟩
theorem fo164 : compF Tryz.prog 164 = some ⟨fe164.N, fe164.xc.er, fe164.rs⟩ := by kernel_rfl
theorem ox164 : okX fe164.xc = true := by kernel_rfl
theorem hb164 : hasBody Tryz.prog 164 = true := by kernel_rfl
theorem fk164 : FEOK Tryz.prog 164 fe164 := ⟨fo164, ox164, hb164⟩

/-- slices.siftDownOrdered[int] -/
def fe165 : FE := ⟨76, (.seq (.reg [] [⟨(some 10), none, (.mv (.t 1))⟩,
    ⟨(some 8), none, (.mv (.t 10))⟩])
  (.block 0 (.loop (.block 1 (.seq (.reg [] [⟨(some 11), none, (.mv (.t 8))⟩,
    ⟨(some 12), none, (.bin .mul (.k (.lit (.int .i64 2))) (.t 11))⟩,
    ⟨(some 13), none, (.bin .add (.t 12) (.k (.lit (.int .i64 1))))⟩,
    ⟨(some 9), none, (.mv (.t 13))⟩])
  (.seq (.seq (.reg [] [⟨(some 14), none, (.mv (.t 9))⟩,
    ⟨(some 15), none, (.mv (.t 2))⟩,
    ⟨(some 16), none, (.bin .geq (.t 14) (.t 15))⟩])
  (.cond (.t 16) (.exit 0) .skip))
  (.seq (.seq (.regd [] [[], [0], [], [1, 2], [3], [4], [4], [4], [6, 7, 4], [5, 8, 4], [9, 4], [4], [4], [4], [12, 13, 4], [14, 4], [11, 15, 4], [16, 4], [10, 17, 4, 4], [4, 18]] [(⟨(some 17), none, (.mv (.t 9))⟩, ⟨[], none, false, false⟩),
    (⟨(some 18), none, (.bin .add (.t 17) (.k (.lit (.int .i64 1))))⟩, ⟨[], none, false, false⟩),
    (⟨(some 19), none, (.mv (.t 2))⟩, ⟨[], none, false, false⟩),
    (⟨(some 20), none, (.bin .lss (.t 18) (.t 19))⟩, ⟨[], none, false, false⟩),
    (⟨(some 21), none, (.mv (.t 20))⟩, ⟨[], none, false, false⟩),
    (⟨(some 22), (some (21, true)), (.mv (.t 0))⟩, ⟨[], none, false, false⟩),
    (⟨(some 23), (some (21, true)), (.mv (.t 3))⟩, ⟨[], none, false, false⟩),
    (⟨(some 24), (some (21, true)), (.mv (.t 9))⟩, ⟨[], none, false, false⟩),
    (⟨(some 25), (some (21, true)), (.bin .add (.t 23) (.t 24))⟩, ⟨[], none, false, false⟩),
    (⟨(some 26), (some (21, true)), (.iad 1 (.t 22) (.t 25))⟩, ⟨[], none, false, false⟩),
    (⟨(some 27), (some (21, true)), (.ld false 1 (.t 26))⟩, ⟨[], none, true, false⟩),
    (⟨(some 28), (some (21, true)), (.mv (.t 0))⟩, ⟨[], none, false, false⟩),
    (⟨(some 29), (some (21, true)), (.mv (.t 3))⟩, ⟨[], none, false, false⟩),
    (⟨(some 30), (some (21, true)), (.mv (.t 9))⟩, ⟨[], none, false, false⟩),
    (⟨(some 31), (some (21, true)), (.bin .add (.t 29) (.t 30))⟩, ⟨[], none, false, false⟩),
    (⟨(some 32), (some (21, true)), (.bin .add (.t 31) (.k (.lit (.int .i64 1))))⟩, ⟨[], none, false, false⟩),
    (⟨(some 33), (some (21, true)), (.iad 1 (.t 28) (.t 32))⟩, ⟨[], none, false, false⟩),
    (⟨(some 34), (some (21, true)), (.ld false 1 (.t 33))⟩, ⟨[], none, true, false⟩),
    (⟨(some 35), (some (21, true)), (.call 142 [(.t 27), (.t 34)])⟩, ⟨[], none, true, false⟩),
    (⟨(some 36), none, (.pick (.t 21) (.t 35) (.k (.lit (.bool false))))⟩, ⟨[], none, false, false⟩)])
  (.cond (.t 36) (.reg [] [⟨(some 37), none, (.mv (.t 9))⟩,
    ⟨(some 38), none, (.bin .add (.t 37) (.k (.lit (.int .i64 1))))⟩,
    ⟨(some 9), none, (.mv (.t 38))⟩]) .skip))
  (.seq (.seq (.regd [] [[], [], [], [1, 2], [0, 3], [4], [], [], [], [7, 8], [6, 9], [10], [5, 11], [12]] [(⟨(some 39), none, (.mv (.t 0))⟩, ⟨[], none, false, false⟩),
    (⟨(some 40), none, (.mv (.t 3))⟩, ⟨[], none, false, false⟩),
    (⟨(some 41), none, (.mv (.t 8))⟩, ⟨[], none, false, false⟩),
    (⟨(some 42), none, (.bin .add (.t 40) (.t 41))⟩, ⟨[], none, false, false⟩),
    (⟨(some 43), none, (.iad 1 (.t 39) (.t 42))⟩, ⟨[], none, false, false⟩),
    (⟨(some 44), none, (.ld false 1 (.t 43))⟩, ⟨[], none, true, false⟩),
    (⟨(some 45), none, (.mv (.t 0))⟩, ⟨[], none, false, false⟩),
    (⟨(some 46), none, (.mv (.t 3))⟩, ⟨[], none, false, false⟩),
    (⟨(some 47), none, (.mv (.t 9))⟩, ⟨[], none, false, false⟩),
    (⟨(some 48), none, (.bin .add (.t 46) (.t 47))⟩, ⟨[], none, false, false⟩),
    (⟨(some 49), none, (.iad 1 (.t 45) (.t 48))⟩, ⟨[], none, false, false⟩),
    (⟨(some 50), none, (.ld false 1 (.t 49))⟩, ⟨[], none, true, false⟩),
    (⟨(some 51), none, (.call 142 [(.t 44), (.t 50)])⟩, ⟨[], none, true, false⟩),
    (⟨(some 52), none, (.un .not (.t 51))⟩, ⟨[], none, false, false⟩)])
  (.cond (.t 52) .ret .skip))
  (.seq (.regd [] [[], [], [], [1, 2], [], [], [], [5, 6], [], [], [], [9, 10], [8, 11], [12], [], [], [], [15, 16], [14, 17], [18], [0, 3, 0, 1, 2, 3, 8, 9, 10, 11, 12, 13, 19], [20, 13, 0, 1, 2, 3, 8, 9, 10, 11, 12, 13, 19], [4, 7, 0, 1, 2, 3, 4, 5, 6, 7, 8, 9, 10, 11, 12, 13, 14, 15, 16, 17, 18, 19, 20, 21], [22, 19, 21, 0, 1, 2, 3, 4, 5, 6, 7, 8, 9, 10, 11, 12, 13, 14, 15, 16, 17, 18, 19, 20, 21]] [(⟨(some 53), none, (.mv (.t 0))⟩, ⟨[], none, false, false⟩),
    (⟨(some 54), none, (.mv (.t 3))⟩, ⟨[], none, false, false⟩),
    (⟨(some 55), none, (.mv (.t 8))⟩, ⟨[], none, false, false⟩),
    (⟨(some 56), none, (.bin .add (.t 54) (.t 55))⟩, ⟨[], none, false, false⟩),
    (⟨(some 57), none, (.mv (.t 0))⟩, ⟨[], none, false, false⟩),
    (⟨(some 58), none, (.mv (.t 3))⟩, ⟨[], none, false, false⟩),
    (⟨(some 59), none, (.mv (.t 9))⟩, ⟨[], none, false, false⟩),
    (⟨(some 60), none, (.bin .add (.t 58) (.t 59))⟩, ⟨[], none, false, false⟩),
    (⟨(some 61), none, (.mv (.t 0))⟩, ⟨[], none, false, false⟩),
    (⟨(some 62), none, (.mv (.t 3))⟩, ⟨[], none, false, false⟩),
    (⟨(some 63), none, (.mv (.t 9))⟩, ⟨[], none, false, false⟩),
    (⟨(some 64), none, (.bin .add (.t 62) (.t 63))⟩, ⟨[], none, false, false⟩),
    (⟨(some 65), none, (.iad 1 (.t 61) (.t 64))⟩, ⟨[], none, false, false⟩),
    (⟨(some 66), none, (.ld false 1 (.t 65))⟩, ⟨[], none, true, false⟩),
    (⟨(some 67), none, (.mv (.t 0))⟩, ⟨[], none, false, false⟩),
    (⟨(some 68), none, (.mv (.t 3))⟩, ⟨[], none, false, false⟩),
    (⟨(some 69), none, (.mv (.t 8))⟩, ⟨[], none, false, false⟩),
    (⟨(some 70), none, (.bin .add (.t 68) (.t 69))⟩, ⟨[], none, false, false⟩),
    (⟨(some 71), none, (.iad 1 (.t 67) (.t 70))⟩, ⟨[], none, false, false⟩),
    (⟨(some 72), none, (.ld false 1 (.t 71))⟩, ⟨[], none, true, false⟩),
    (⟨(some 73), none, (.iad 1 (.t 53) (.t 56))⟩, ⟨[], none, false, false⟩),
    (⟨none, none, (.st 1 (.t 73) (.t 66))⟩, ⟨[], none, true, true⟩),
    (⟨(some 74), none, (.iad 1 (.t 57) (.t 60))⟩, ⟨[], none, false, false⟩),
    (⟨none, none, (.st 1 (.t 74) (.t 72))⟩, ⟨[], none, true, true⟩)])
  (.reg [] [⟨(some 75), none, (.mv (.t 9))⟩,
    ⟨(some 8), none, (.mv (.t 75))⟩])))))))))), [], [], false⟩
theorem fo165 : compF Tryz.prog 165 = some ⟨fe165.N, fe165.xc.er, fe165.rs⟩ := by kernel_rfl
theorem ox165 : okX fe165.xc = true := by kernel_rfl
theorem hb165 : hasBody Tryz.prog 165 = true := by kernel_rfl
theorem fk165 : FEOK Tryz.prog 165 fe165 := ⟨fo165, ox165, hb165⟩

/-- slices.nextPowerOfTwo -/
def fe166 : FE := ⟨7, (.seq (.reg [] [⟨(some 2), none, (.mv (.k (.lit (.int .u64 0))))⟩])
  (.seq (.reg [] [⟨(some 3), none, (.mv (.t 0))⟩,
    ⟨(some 4), none, (.cv .u64 (.t 3))⟩,
    ⟨(some 5), none, (.call 93 [(.t 4)])⟩,
    ⟨(some 6), none, (.bin .shl (.k (.lit (.int .u64 1))) (.t 5))⟩,
    ⟨(some 2), none, (.mv (.t 6))⟩])
  .ret)), [(.tmp 2)], [], true⟩
theorem fo166 : compF Tryz.prog 166 = some ⟨fe166.N, fe166.xc.er, fe166.rs⟩ := by kernel_rfl
theorem ox166 : okX fe166.xc = true := by kernel_rfl
theorem hb166 : hasBody Tryz.prog 166 = true := by kernel_rfl
theorem fk166 : FEOK Tryz.prog 166 fe166 := ⟨fo166, ox166, hb166⟩

/-- (*slices.xorshift).Next -/
def fe167 : FE := ⟨33, (.seq (.reg [] [⟨(some 2), none, (.mv (.k (.lit (.int .u64 0))))⟩])
  (.seq (.regd [] [[], [0], [1], [], [3], [4], [5], [2, 6], [0, 0, 1, 2, 3, 4, 5, 6, 7], [8, 7, 0, 1, 2, 3, 4, 5, 6, 7]] [(⟨(some 3), none, (.mv (.t 0))⟩, ⟨[], none, false, false⟩),
    (⟨(some 4), none, (.nck (.t 3))⟩, ⟨[], none, false, false⟩),
    (⟨(some 5), none, (.ld false 1 (.t 4))⟩, ⟨[], none, true, false⟩),
    (⟨(some 6), none, (.mv (.t 0))⟩, ⟨[], none, false, false⟩),
    (⟨(some 7), none, (.nck (.t 6))⟩, ⟨[], none, false, false⟩),
    (⟨(some 8), none, (.ld false 1 (.t 7))⟩, ⟨[], none, true, false⟩),
    (⟨(some 9), none, (.bin .shl (.t 8) (.k (.lit (.int .u64 13))))⟩, ⟨[], none, false, false⟩),
    (⟨(some 10), none, (.bin .xor (.t 5) (.t 9))⟩, ⟨[], none, false, false⟩),
    (⟨(some 11), none, (.nck (.t 3))⟩, ⟨[], none, false, false⟩),
    (⟨none, none, (.st 1 (.t 11) (.t 10))⟩, ⟨[], none, true, true⟩)])
  (.seq (.regd [] [[], [0], [1], [], [3], [4], [5], [2, 6], [0, 0, 1, 2, 3, 4, 5, 6, 7], [8, 7, 0, 1, 2, 3, 4, 5, 6, 7]] [(⟨(some 12), none, (.mv (.t 0))⟩, ⟨[], none, false, false⟩),
    (⟨(some 13), none, (.nck (.t 12))⟩, ⟨[], none, false, false⟩),
    (⟨(some 14), none, (.ld false 1 (.t 13))⟩, ⟨[], none, true, false⟩),
    (⟨(some 15), none, (.mv (.t 0))⟩, ⟨[], none, false, false⟩),
    (⟨(some 16), none, (.nck (.t 15))⟩, ⟨[], none, false, false⟩),
    (⟨(some 17), none, (.ld false 1 (.t 16))⟩, ⟨[], none, true, false⟩),
    (⟨(some 18), none, (.bin .shr (.t 17) (.k (.lit (.int .u64 7))))⟩, ⟨[], none, false, false⟩),
    (⟨(some 19), none, (.bin .xor (.t 14) (.t 18))⟩, ⟨[], none, false, false⟩),
    (⟨(some 20), none, (.nck (.t 12))⟩, ⟨[], none, false, false⟩),
    (⟨none, none, (.st 1 (.t 20) (.t 19))⟩, ⟨[], none, true, true⟩)])
  (.seq (.regd [] [[], [0], [1], [], [3], [4], [5], [2, 6], [0, 0, 1, 2, 3, 4, 5, 6, 7], [8, 7, 0, 1, 2, 3, 4, 5, 6, 7]] [(⟨(some 21), none, (.mv (.t 0))⟩, ⟨[], none, false, false⟩),
    (⟨(some 22), none, (.nck (.t 21))⟩, ⟨[], none, false, false⟩),
    (⟨(some 23), none, (.ld false 1 (.t 22))⟩, ⟨[], none, true, false⟩),
    (⟨(some 24), none, (.mv (.t 0))⟩, ⟨[], none, false, false⟩),
    (⟨(some 25), none, (.nck (.t 24))⟩, ⟨[], none, false, false⟩),
    (⟨(some 26), none, (.ld false 1 (.t 25))⟩, ⟨[], none, true, false⟩),
    (⟨(some 27), none, (.bin .shl (.t 26) (.k (.lit (.int .u64 17))))⟩, ⟨[], none, false, false⟩),
    (⟨(some 28), none, (.bin .xor (.t 23) (.t 27))⟩, ⟨[], none, false, false⟩),
    (⟨(some 29), none, (.nck (.t 21))⟩, ⟨[], none, false, false⟩),
    (⟨none, none, (.st 1 (.t 29) (.t 28))⟩, ⟨[], none, true, true⟩)])
  (.seq (.reg [] [⟨(some 30), none, (.mv (.t 0))⟩,
    ⟨(some 31), none, (.nck (.t 30))⟩,
    ⟨(some 32), none, (.ld false 1 (.t 31))⟩,
    ⟨(some 2), none, (.mv (.t 32))⟩])
  .ret))))), [(.tmp 2)], [], false⟩
theorem fo167 : compF Tryz.prog 167 = some ⟨fe167.N, fe167.xc.er, fe167.rs⟩ := by kernel_rfl
theorem ox167 : okX fe167.xc = true := by kernel_rfl
theorem hb167 : hasBody Tryz.prog 167 = true := by kernel_rfl
theorem fk167 : FEOK Tryz.prog 167 fe167 := ⟨fo167, ox167, hb167⟩

/-- slices.medianAdjacentOrdered[int] -/
def fe168 : FE := ⟨15, (.seq (.reg [] [⟨(some 6), none, (.mv (.k (.lit (.int .i64 0))))⟩])
  (.seq (.reg [] [⟨(some 7), none, (.mv (.t 0))⟩,
    ⟨(some 8), none, (.mv (.t 1))⟩,
    ⟨(some 9), none, (.bin .sub (.t 8) (.k (.lit (.int .i64 1))))⟩,
    ⟨(some 10), none, (.mv (.t 1))⟩,
    ⟨(some 11), none, (.mv (.t 1))⟩,
    ⟨(some 12), none, (.bin .add (.t 11) (.k (.lit (.int .i64 1))))⟩,
    ⟨(some 13), none, (.mv (.t 2))⟩,
    ⟨(some 14), none, (.call 169 [(.t 7), (.t 9), (.t 10), (.t 12), (.t 13)])⟩,
    ⟨(some 6), none, (.mv (.t 14))⟩])
  .ret)), [(.tmp 6)], [], false⟩
theorem fo168 : compF Tryz.prog 168 = some ⟨fe168.N, fe168.xc.er, fe168.rs⟩ := by kernel_rfl
theorem ox168 : okX fe168.xc = true := by kernel_rfl
theorem hb168 : hasBody Tryz.prog 168 = true := by kernel_rfl
theorem fk168 : FEOK Tryz.prog 168 fe168 := ⟨fo168, ox168, hb168⟩

/-- slices.medianOrdered[int] -/
def fe169 : FE := ⟨36, (.seq (.reg [] [⟨(some 10), none, (.mv (.k (.lit (.int .i64 0))))⟩])
  (.seq (.reg [] [⟨(some 12), none, (.mv (.t 0))⟩,
    ⟨(some 13), none, (.mv (.t 1))⟩,
    ⟨(some 14), none, (.mv (.t 2))⟩,
    ⟨(some 15), none, (.mv (.t 4))⟩,
    ⟨(some 16), none, (.call 174 [(.t 12), (.t 13), (.t 14), (.t 15)])⟩,
    ⟨(some 11), none, (.mv (.t 16))⟩,
    ⟨(some 17), none, (.ext (.t 11) 0)⟩,
    ⟨(some 18), none, (.ext (.t 11) 1)⟩,
    ⟨(some 1), none, (.mv (.t 17))⟩,
    ⟨(some 2), none, (.mv (.t 18))⟩])
  (.seq (.reg [] [⟨(some 20), none, (.mv (.t 0))⟩,
    ⟨(some 21), none, (.mv (.t 2))⟩,
    ⟨(some 22), none, (.mv (.t 3))⟩,
    ⟨(some 23), none, (.mv (.t 4))⟩,
    ⟨(some 24), none, (.call 174 [(.t 20), (.t 21), (.t 22), (.t 23)])⟩,
    ⟨(some 19), none, (.mv (.t 24))⟩,
    ⟨(some 25), none, (.ext (.t 19) 0)⟩,
    ⟨(some 26), none, (.ext (.t 19) 1)⟩,
    ⟨(some 2), none, (.mv (.t 25))⟩,
    ⟨(some 3), none, (.mv (.t 26))⟩])
  (.seq (.reg [] [⟨(some 28), none, (.mv (.t 0))⟩,
    ⟨(some 29), none, (.mv (.t 1))⟩,
    ⟨(some 30), none, (.mv (.t 2))⟩,
    ⟨(some 31), none, (.mv (.t 4))⟩,
    ⟨(some 32), none, (.call 174 [(.t 28), (.t 29), (.t 30), (.t 31)])⟩,
    ⟨(some 27), none, (.mv (.t 32))⟩,
    ⟨(some 33), none, (.ext (.t 27) 0)⟩,
    ⟨(some 34), none, (.ext (.t 27) 1)⟩,
    ⟨(some 1), none, (.mv (.t 33))⟩,
    ⟨(some 2), none, (.mv (.t 34))⟩])
  (.seq (.reg [] [⟨(some 35), none, (.mv (.t 2))⟩,
    ⟨(some 10), none, (.mv (.t 35))⟩])
  .ret))))), [(.tmp 10)], [], false⟩
theorem fo169 : compF Tryz.prog 169 = some ⟨fe169.N, fe169.xc.er, fe169.rs⟩ := by kernel_rfl
theorem ox169 : okX fe169.xc = true := by kernel_rfl
theorem hb169 : hasBody Tryz.prog 169 = true := by kernel_rfl
theorem fk169 : FEOK Tryz.prog 169 fe169 := ⟨fo169, ox169, hb169⟩

/-- cmp.isNaN[int] -/
def fe170 : FE := ⟨6, (.seq (.reg [] [⟨(some 2), none, (.mv (.k (.lit (.bool false))))⟩])
  (.seq (.reg [] [⟨(some 3), none, (.mv (.t 0))⟩,
    ⟨(some 4), none, (.mv (.t 0))⟩,
    ⟨(some 5), none, (.bin .neq (.t 3) (.t 4))⟩,
    ⟨(some 2), none, (.mv (.t 5))⟩])
  .ret)), [(.tmp 2)], [], true⟩
theorem fo170 : compF Tryz.prog 170 = some ⟨fe170.N, fe170.xc.er, fe170.rs⟩ := by kernel_rfl
theorem ox170 : okX fe170.xc = true := by kernel_rfl
theorem hb170 : hasBody Tryz.prog 170 = true := by kernel_rfl
theorem fk170 : FEOK Tryz.prog 170 fe170 := ⟨fo170, ox170, hb170⟩

/-- math/bits.Div64 -/
def fe171 : FE := ⟨135, (.seq (.reg [] [⟨(some 6), none, (.mv (.k (.lit (.int .u64 0))))⟩,
    ⟨(some 7), none, (.mv (.k (.lit (.int .u64 0))))⟩])
  (.seq (.seq (.reg [] [⟨(some 19), none, (.mv (.t 2))⟩,
    ⟨(some 20), none, (.bin .eql (.t 19) (.k (.lit (.int .u64 0))))⟩])
  (.cond (.t 20) .no .skip))
  (.seq (.seq (.reg [] [⟨(some 22), none, (.mv (.t 2))⟩,
    ⟨(some 23), none, (.mv (.t 0))⟩,
    ⟨(some 24), none, (.bin .leq (.t 22) (.t 23))⟩])
  (.cond (.t 24) .no .skip))
  (.seq (.seq (.reg [] [⟨(some 26), none, (.mv (.t 0))⟩,
    ⟨(some 27), none, (.bin .eql (.t 26) (.k (.lit (.int .u64 0))))⟩])
  (.cond (.t 27) (.seq (.regd [] [[], [], [0, 1], [], [], [3, 4], [2, 0, 1, 2], [5, 6, 0, 1, 2, 3, 4, 5, 6]] [(⟨(some 28), none, (.mv (.t 1))⟩, ⟨[], none, false, false⟩),
    (⟨(some 29), none, (.mv (.t 2))⟩, ⟨[], none, false, false⟩),
    (⟨(some 30), none, (.bin .quo (.t 28) (.t 29))⟩, ⟨[], none, false, false⟩),
    (⟨(some 31), none, (.mv (.t 1))⟩, ⟨[], none, false, false⟩),
    (⟨(some 32), none, (.mv (.t 2))⟩, ⟨[], none, false, false⟩),
    (⟨(some 33), none, (.bin .rem (.t 31) (.t 32))⟩, ⟨[], none, false, false⟩),
    (⟨(some 6), none, (.mv (.t 30))⟩, ⟨[], none, false, false⟩),
    (⟨(some 7), none, (.mv (.t 33))⟩, ⟨[], none, false, false⟩)])
  .ret) .skip))
  (.seq (.reg [] [⟨(some 34), none, (.mv (.t 2))⟩,
    ⟨(some 35), none, (.call 175 [(.t 34)])⟩,
    ⟨(some 36), none, (.cv .u64 (.t 35))⟩,
    ⟨(some 8), none, (.mv (.t 36))⟩])
  (.seq (.reg [] [⟨(some 37), none, (.mv (.t 2))⟩,
    ⟨(some 38), none, (.mv (.t 8))⟩,
    ⟨(some 39), none, (.bin .shl (.t 37) (.t 38))⟩,
    ⟨(some 2), none, (.mv (.t 39))⟩])
  (.seq (.reg [] [⟨(some 40), none, (.mv (.t 2))⟩,
    ⟨(some 41), none, (.bin .shr (.t 40) (.k (.lit (.int .u64 32))))⟩,
    ⟨(some 9), none, (.mv (.t 41))⟩])
  (.seq (.reg [] [⟨(some 42), none, (.mv (.t 2))⟩,
    ⟨(some 43), none, (.bin .and (.t 42) (.k (.lit (.int .u64 4294967295))))⟩,
    ⟨(some 10), none, (.mv (.t 43))⟩])
  (.seq (.reg [] [⟨(some 44), none, (.mv (.t 0))⟩,
    ⟨(some 45), none, (.mv (.t 8))⟩,
    ⟨(some 46), none, (.bin .shl (.t 44) (.t 45))⟩,
    ⟨(some 47), none, (.mv (.t 1))⟩,
    ⟨(some 48), none, (.mv (.t 8))⟩,
    ⟨(some 49), none, (.bin .sub (.k (.lit (.int .u64 64))) (.t 48))⟩,
    ⟨(some 50), none, (.bin .shr (.t 47) (.t 49))⟩,
    ⟨(some 51), none, (.bin .or (.t 46) (.t 50))⟩,
    ⟨(some 11), none, (.mv (.t 51))⟩])
  (.seq (.reg [] [⟨(some 52), none, (.mv (.t 1))⟩,
    ⟨(some 53), none, (.mv (.t 8))⟩,
    ⟨(some 54), none, (.bin .shl (.t 52) (.t 53))⟩,
    ⟨(some 12), none, (.mv (.t 54))⟩])
  (.seq (.reg [] [⟨(some 55), none, (.mv (.t 12))⟩,
    ⟨(some 56), none, (.bin .shr (.t 55) (.k (.lit (.int .u64 32))))⟩,
    ⟨(some 13), none, (.mv (.t 56))⟩])
  (.seq (.reg [] [⟨(some 57), none, (.mv (.t 12))⟩,
    ⟨(some 58), none, (.bin .and (.t 57) (.k (.lit (.int .u64 4294967295))))⟩,
    ⟨(some 14), none, (.mv (.t 58))⟩])
  (.seq (.reg [] [⟨(some 59), none, (.mv (.t 11))⟩,
    ⟨(some 60), none, (.mv (.t 9))⟩,
    ⟨(some 61), none, (.bin .quo (.t 59) (.t 60))⟩,
    ⟨(some 15), none, (.mv (.t 61))⟩])
  (.seq (.reg [] [⟨(some 62), none, (.mv (.t 11))⟩,
    ⟨(some 63), none, (.mv (.t 15))⟩,
    ⟨(some 64), none, (.mv (.t 9))⟩,
    ⟨(some 65), none, (.bin .mul (.t 63) (.t 64))⟩,
    ⟨(some 66), none, (.bin .sub (.t 62) (.t 65))⟩,
    ⟨(some 16), none, (.mv (.t 66))⟩])
  (.seq (.block 0 (.loop (.seq (.seq (.reg [] [⟨(some 67), none, (.mv (.t 15))⟩,
    ⟨(some 68), none, (.bin .geq (.t 67) (.k (.lit (.int .u64 4294967296))))⟩,
    ⟨(some 69), none, (.mv (.t 68))⟩,
    ⟨(some 70), (some (69, false)), (.mv (.t 15))⟩,
    ⟨(some 71), (some (69, false)), (.mv (.t 10))⟩,
    ⟨(some 72), (some (69, false)), (.bin .mul (.t 70) (.t 71))⟩,
    ⟨(some 73), (some (69, false)), (.mv (.t 16))⟩,
    ⟨(some 74), (some (69, false)), (.bin .mul (.k (.lit (.int .u64 4294967296))) (.t 73))⟩,
    ⟨(some 75), (some (69, false)), (.mv (.t 13))⟩,
    ⟨(some 76), (some (69, false)), (.bin .add (.t 74) (.t 75))⟩,
    ⟨(some 77), (some (69, false)), (.bin .gtr (.t 72) (.t 76))⟩,
    ⟨(some 78), none, (.pick (.t 69) (.k (.lit (.bool true))) (.t 77))⟩])
  (.cond (.t 78) .skip (.exit 0)))
  (.block 1 (.seq (.reg [] [⟨(some 79), none, (.mv (.t 15))⟩,
    ⟨(some 80), none, (.bin .sub (.t 79) (.k (.lit (.int .u64 1))))⟩,
    ⟨(some 15), none, (.mv (.t 80))⟩])
  (.seq (.reg [] [⟨(some 81), none, (.mv (.t 16))⟩,
    ⟨(some 82), none, (.mv (.t 9))⟩,
    ⟨(some 83), none, (.bin .add (.t 81) (.t 82))⟩,
    ⟨(some 16), none, (.mv (.t 83))⟩])
  (.seq (.reg [] [⟨(some 84), none, (.mv (.t 16))⟩,
    ⟨(some 85), none, (.bin .geq (.t 84) (.k (.lit (.int .u64 4294967296))))⟩])
  (.cond (.t 85) (.exit 0) .skip))))))))
  (.seq (.reg [] [⟨(some 86), none, (.mv (.t 11))⟩,
    ⟨(some 87), none, (.bin .mul (.t 86) (.k (.lit (.int .u64 4294967296))))⟩,
    ⟨(some 88), none, (.mv (.t 13))⟩,
    ⟨(some 89), none, (.bin .add (.t 87) (.t 88))⟩,
    ⟨(some 90), none, (.mv (.t 15))⟩,
    ⟨(some 91), none, (.mv (.t 2))⟩,
    ⟨(some 92), none, (.bin .mul (.t 90) (.t 91))⟩,
    ⟨(some 93), none, (.bin .sub (.t 89) (.t 92))⟩,
    ⟨(some 17), none, (.mv (.t 93))⟩])
  (.seq (.reg [] [⟨(some 94), none, (.mv (.t 17))⟩,
    ⟨(some 95), none, (.mv (.t 9))⟩,
    ⟨(some 96), none, (.bin .quo (.t 94) (.t 95))⟩,
    ⟨(some 18), none, (.mv (.t 96))⟩])
  (.seq (.reg [] [⟨(some 97), none, (.mv (.t 17))⟩,
    ⟨(some 98), none, (.mv (.t 18))⟩,
    ⟨(some 99), none, (.mv (.t 9))⟩,
    ⟨(some 100), none, (.bin .mul (.t 98) (.t 99))⟩,
    ⟨(some 101), none, (.bin .sub (.t 97) (.t 100))⟩,
    ⟨(some 16), none, (.mv (.t 101))⟩])
  (.seq (.block 2 (.loop (.seq (.seq (.reg [] [⟨(some 102), none, (.mv (.t 18))⟩,
    ⟨(some 103), none, (.bin .geq (.t 102) (.k (.lit (.int .u64 4294967296))))⟩,
    ⟨(some 104), none, (.mv (.t 103))⟩,
    ⟨(some 105), (some (104, false)), (.mv (.t 18))⟩,
    ⟨(some 106), (some (104, false)), (.mv (.t 10))⟩,
    ⟨(some 107), (some (104, false)), (.bin .mul (.t 105) (.t 106))⟩,
    ⟨(some 108), (some (104, false)), (.mv (.t 16))⟩,
    ⟨(some 109), (some (104, false)), (.bin .mul (.k (.lit (.int .u64 4294967296))) (.t 108))⟩,
    ⟨(some 110), (some (104, false)), (.mv (.t 14))⟩,
    ⟨(some 111), (some (104, false)), (.bin .add (.t 109) (.t 110))⟩,
    ⟨(some 112), (some (104, false)), (.bin .gtr (.t 107) (.t 111))⟩,
    ⟨(some 113), none, (.pick (.t 104) (.k (.lit (.bool true))) (.t 112))⟩])
  (.cond (.t 113) .skip (.exit 2)))
  (.block 3 (.seq (.reg [] [⟨(some 114), none, (.mv (.t 18))⟩,
    ⟨(some 115), none, (.bin .sub (.t 114) (.k (.lit (.int .u64 1))))⟩,
    ⟨(some 18), none, (.mv (.t 115))⟩])
  (.seq (.reg [] [⟨(some 116), none, (.mv (.t 16))⟩,
    ⟨(some 117), none, (.mv (.t 9))⟩,
    ⟨(some 118), none, (.bin .add (.t 116) (.t 117))⟩,
    ⟨(some 16), none, (.mv (.t 118))⟩])
  (.seq (.reg [] [⟨(some 119), none, (.mv (.t 16))⟩,
    ⟨(some 120), none, (.bin .geq (.t 119) (.k (.lit (.int .u64 4294967296))))⟩])
  (.cond (.t 120) (.exit 2) .skip))))))))
  (.seq (.reg [] [⟨(some 121), none, (.mv (.t 15))⟩,
    ⟨(some 122), none, (.bin .mul (.t 121) (.k (.lit (.int .u64 4294967296))))⟩,
    ⟨(some 123), none, (.mv (.t 18))⟩,
    ⟨(some 124), none, (.bin .add (.t 122) (.t 123))⟩,
    ⟨(some 125), none, (.mv (.t 17))⟩,
    ⟨(some 126), none, (.bin .mul (.t 125) (.k (.lit (.int .u64 4294967296))))⟩,
    ⟨(some 127), none, (.mv (.t 14))⟩,
    ⟨(some 128), none, (.bin .add (.t 126) (.t 127))⟩,
    ⟨(some 129), none, (.mv (.t 18))⟩,
    ⟨(some 130), none, (.mv (.t 2))⟩,
    ⟨(some 131), none, (.bin .mul (.t 129) (.t 130))⟩,
    ⟨(some 132), none, (.bin .sub (.t 128) (.t 131))⟩,
    ⟨(some 133), none, (.mv (.t 8))⟩,
    ⟨(some 134), none, (.bin .shr (.t 132) (.t 133))⟩,
    ⟨(some 6), none, (.mv (.t 124))⟩,
    ⟨(some 7), none, (.mv (.t 134))⟩])
  .ret)))))))))))))))))))), [(.tmp 6), (.tmp 7)], [], true⟩
theorem fo171 : compF Tryz.prog 171 = some ⟨fe171.N, fe171.xc.er, fe171.rs⟩ := by kernel_rfl
theorem ox171 : okX fe171.xc = true := by kernel_rfl
theorem hb171 : hasBody Tryz.prog 171 = true := by kernel_rfl
theorem fk171 : FEOK Tryz.prog 171 fe171 := ⟨fo171, ox171, hb171⟩

/-- isohyet/wide.pick -/
def fe173 : FE := ⟨10, (.seq (.reg [2, 4] [⟨(some 2), none, (.box (.t 0))⟩,
    ⟨(some 4), none, (.new [(.lit (.int .u64 0)), (.lit (.int .u64 0))])⟩,
    ⟨(some 5), none, (.mv (.k (.lit (.bool false))))⟩])
  (.seq (.seq (.reg [] [⟨(some 6), none, (.mv (.t 1))⟩,
    ⟨(some 7), none, (.un .not (.t 6))⟩])
  (.cond (.t 7) (.seq (.reg [] [⟨(some 8), none, (.bld [(.lit (.int .u64 0)), (.lit (.int .u64 0))] [])⟩,
    ⟨none, none, (.st 2 (.t 4) (.t 8))⟩,
    ⟨(some 5), none, (.mv (.k (.lit (.bool false))))⟩])
  .ret) .skip))
  (.seq (.reg [] [⟨(some 9), none, (.ld true 2 (.t 2))⟩,
    ⟨none, none, (.st 2 (.t 4) (.t 9))⟩,
    ⟨(some 5), none, (.mv (.k (.lit (.bool true))))⟩])
  .ret))), [(.cell 4 true 2), (.tmp 5)], [], true⟩
theorem fo173 : compF Tryz.prog 173 = some ⟨fe173.N, fe173.xc.er, fe173.rs⟩ := by kernel_rfl
theorem ox173 : okX fe173.xc = true := by kernel_rfl
theorem hb173 : hasBody Tryz.prog 173 = true := by kernel_rfl
theorem fk173 : FEOK Tryz.prog 173 fe173 := ⟨fo173, ox173, hb173⟩

/-- slices.order2Ordered[int] -/
def fe174 : FE := ⟨28, (.seq (.reg [] [⟨(some 8), none, (.mv (.k (.lit (.int .i64 0))))⟩,
    ⟨(some 9), none, (.mv (.k (.lit (.int .i64 0))))⟩])
  (.seq (.seq (.regd [] [[], [], [0, 1], [2], [], [], [4, 5], [6], [3, 7]] [(⟨(some 10), none, (.mv (.t 0))⟩, ⟨[], none, false, false⟩),
    (⟨(some 11), none, (.mv (.t 2))⟩, ⟨[], none, false, false⟩),
    (⟨(some 12), none, (.iad 1 (.t 10) (.t 11))⟩, ⟨[], none, false, false⟩),
    (⟨(some 13), none, (.ld false 1 (.t 12))⟩, ⟨[], none, true, false⟩),
    (⟨(some 14), none, (.mv (.t 0))⟩, ⟨[], none, false, false⟩),
    (⟨(some 15), none, (.mv (.t 1))⟩, ⟨[], none, false, false⟩),
    (⟨(some 16), none, (.iad 1 (.t 14) (.t 15))⟩, ⟨[], none, false, false⟩),
    (⟨(some 17), none, (.ld false 1 (.t 16))⟩, ⟨[], none, true, false⟩),
    (⟨(some 18), none, (.call 142 [(.t 13), (.t 17)])⟩, ⟨[], none, true, false⟩)])
  (.cond (.t 18) (.seq (.reg [] [⟨(some 19), none, (.mv (.t 3))⟩,
    ⟨(some 20), none, (.nck (.t 19))⟩,
    ⟨(some 21), none, (.ld false 1 (.t 20))⟩,
    ⟨(some 22), none, (.bin .add (.t 21) (.k (.lit (.int .i64 1))))⟩,
    ⟨(some 23), none, (.nck (.t 19))⟩,
    ⟨none, none, (.st 1 (.t 23) (.t 22))⟩])
  (.seq (.reg [] [⟨(some 24), none, (.mv (.t 2))⟩,
    ⟨(some 25), none, (.mv (.t 1))⟩,
    ⟨(some 8), none, (.mv (.t 24))⟩,
    ⟨(some 9), none, (.mv (.t 25))⟩])
  .ret)) .skip))
  (.seq (.reg [] [⟨(some 26), none, (.mv (.t 1))⟩,
    ⟨(some 27), none, (.mv (.t 2))⟩,
    ⟨(some 8), none, (.mv (.t 26))⟩,
    ⟨(some 9), none, (.mv (.t 27))⟩])
  .ret))), [(.tmp 8), (.tmp 9)], [], false⟩
theorem fo174 : compF Tryz.prog 174 = some ⟨fe174.N, fe174.xc.er, fe174.rs⟩ := by kernel_rfl
theorem ox174 : okX fe174.xc = true := by kernel_rfl
theorem hb174 : hasBody Tryz.prog 174 = true := by kernel_rfl
theorem fk174 : FEOK Tryz.prog 174 fe174 := ⟨fo174, ox174, hb174⟩

/-- math/bits.LeadingZeros64 -/
def fe175 : FE := ⟨6, (.seq (.reg [] [⟨(some 2), none, (.mv (.k (.lit (.int .i64 0))))⟩])
  (.seq (.reg [] [⟨(some 3), none, (.mv (.t 0))⟩,
    ⟨(some 4), none, (.call 146 [(.t 3)])⟩,
    ⟨(some 5), none, (.bin .sub (.k (.lit (.int .i64 64))) (.t 4))⟩,
    ⟨(some 2), none, (.mv (.t 5))⟩])
  .ret)), [(.tmp 2)], [], true⟩
theorem fo175 : compF Tryz.prog 175 = some ⟨fe175.N, fe175.xc.er, fe175.rs⟩ := by kernel_rfl
theorem ox175 : okX fe175.xc = true := by kernel_rfl
theorem hb175 : hasBody Tryz.prog 175 = true := by kernel_rfl
theorem fk175 : FEOK Tryz.prog 175 fe175 := ⟨fo175, ox175, hb175⟩

end Iso
