import Derived.Test.YtlgejmkkehfllaaGreatZ5
import Derived.Test.YtlgejmkkehfllaaGreatProg
/- The code of functions, as the runner wants it. -/
namespace Iso
open Go Go.Proofs
/-- isohyet/steal.Normal$1 -/
def fe68 : FE := ⟨10, (.seq (.reg [2, 3] [xC 2 (.box (.t 0)),
 xC 3 (.box (.t 1)),
 xC 4 (.mv kZ)])
 (.seq (.reg [] [xC 5 (.fad 0 (.t 2)),
 xC 6 (.ld false 1 (.t 5)),
 xC 7 (.fad 0 (.t 3)),
 xC 8 (.ld false 1 (.t 7)),
 xC 9 (.bin .sub (.t 6) (.t 8)),
 xC 4 (.mv (.t 9))])
 .ret)), [(.tmp 4)], [], true⟩
theorem hb68 : hasBody Tryz.prog 68 = true := by kernel_rfl
theorem fk68 : FEOK Tryz.prog 68 fe68 := ⟨by kernel_rfl, by kernel_rfl, hb68⟩
/-- isohyet/steal.fan -/
def fe70 : FE := ⟨56, (.seq (.reg [4, 5] [xC 4 (.box (.t 1)),
 xC 5 (.box (.t 2)),
 xC 6 (.mv (.k sZ))])
 (.seq (.reg [] [xC 7 (.mv (.k sZ))])
 (.seq (.seq (.regd [] [[], [0], [1], [2], [], [4], [], [6], [3, 5], [8], [9, 7], [10], [11, 0, 1, 2, 3, 4, 5, 6, 7, 8, 9, 10, 11]] [xU 10 (.mv (.t 0)),
 xU 11 (.nck (.t 10)),
 xU 12 (.fad 1 (.t 11)),
 xV 13 (.ld false 1 (.t 12)),
 (xC 14 (.fad 2 (.t 5)), ⟨[5], none, false, false⟩),
 (xC 15 (.ld false 1 (.t 14)), ⟨[5], none, false, false⟩),
 (xC 16 (.fad 3 (.t 5)), ⟨[5], none, false, false⟩),
 (xC 17 (.ld false 1 (.t 16)), ⟨[5], none, false, false⟩),
 xU 18 (.iad 9 (.t 13) (.t 15)),
 xU 19 (.fad 3 (.t 18)),
 xU 20 (.iaa 3 1 (.t 19) (.t 17)),
 xV 21 (.ld false 1 (.t 20)),
 xU 8 (.mv (.t 21))])
 (.block 0 (.loop (.seq (.seq (.reg [] [xC 22 (.fad 0 (.t 4)),
 xC 23 (.ld false 1 (.t 22)),
 xC 24 (.mv (.t 8)),
 xC 25 (.call 111 [(.t 23), (.t 24)])])
 (.cond (.t 25) .skip (.exit 0)))
 (.block 1 (.seq (.reg [] [xC 26 (.mv (.t 7)),
 xC 27 (.mv (.t 0)),
 xC 28 (.mv (.t 8)),
 xC 29 (.call 112 [(.t 27), (.t 28)]),
 xC 30 (.bsl 1 6 [bF, sZ, sZ, bF, sZ, sZ] [(0, (6, (.t 29)))]),
 xC 31 (.app 6 112 (.t 26) (.t 30)),
 xC 7 (.mv (.t 31))])
 (.seq (.regd [] [[], [0], [1], [2], [], [3, 4], [5], [6], [], [8], [7, 9], [10, 10, 0, 1, 2, 3, 4, 5, 6, 7, 8, 9, 10]] [xU 32 (.mv (.t 0)),
 xU 33 (.nck (.t 32)),
 xU 34 (.fad 1 (.t 33)),
 xV 35 (.ld false 1 (.t 34)),
 xU 36 (.mv (.t 8)),
 xU 37 (.iad 9 (.t 35) (.t 36)),
 xU 38 (.fad 0 (.t 37)),
 xV 39 (.sla 3 1 (.t 38) none none),
 (xC 40 (.fad 0 (.t 5)), ⟨[5], none, false, false⟩),
 (xC 41 (.ld false 1 (.t 40)), ⟨[5], none, false, false⟩),
 xV 42 (.call 54 [(.t 39), (.t 41)]),
 xU 9 (.mv (.t 42))])
 (.reg [] [xC 43 (.mv (.t 0)),
 xC 44 (.nck (.t 43)),
 xC 45 (.fad 1 (.t 44)),
 xC 46 (.ld false 1 (.t 45)),
 xC 47 (.mv (.t 8)),
 xC 48 (.mv (.t 9)),
 xC 49 (.bin .add (.t 48) (kN 1)),
 xC 50 (.bin .rem (.t 49) (kN 3)),
 xC 51 (.iad 9 (.t 46) (.t 47)),
 xC 52 (.fad 3 (.t 51)),
 xC 53 (.iaa 3 1 (.t 52) (.t 50)),
 xC 54 (.ld false 1 (.t 53)),
 xC 8 (.mv (.t 54))]))))))))
 (.seq (.reg [] [xC 55 (.mv (.t 7)),
 xC 6 (.mv (.t 55))])
 .ret)))), [(.tmp 6)], [], true⟩
theorem hb70 : hasBody Tryz.prog 70 = true := by kernel_rfl
theorem fk70 : FEOK Tryz.prog 70 fe70 := ⟨by kernel_rfl, by kernel_rfl, hb70⟩
/-- isohyet/grow.Base -/
def fe71 : FE := ⟨45, (.seq (.reg [2] [xC 2 (.new [(zN 0), (zN 0), (zN 0)]),
 xC 3 (.mv (.k bF))])
 (.seq (.reg [] [xC 4 (.mv kZ)])
 (.seq (.seq (.reg [] [xC 7 (.mv (.t 0)),
 xC 8 (.len (.t 7)),
 xC 9 (.mv kZ)])
 (.block 0 (.loop (.seq (.reg [] [xC 10 (.bin .lss (.t 9) (.t 8))])
 (.seq (.cond (.t 10) .skip (.exit 0))
 (.seq (.block 1 (.seq (.reg [6] [xC 11 (.mv (.t 9)),
 xC 12 (.iad 2 (.t 7) (.t 9)),
 xC 13 (.ld true 2 (.t 12)),
 xC 6 (.new [(zN 0), (zN 0)]),
 xC 5 (.mv (.t 11)),
 ⟨none, none, (.st 2 (.t 6) (.t 13))⟩])
 (.block 2 (.seq (.regd [] [[], [0], [1], [2], [2], [4, 2], [5, 2], [3, 6, 2], [2, 7], [8, 2]] [xU 15 (.mv (.t 4)),
 xU 16 (.bin .eql (.t 15) kZ),
 xU 17 (.mv (.t 16)),
 (⟨(some 18), (some (17, true)), (.ld true 2 (.t 6))⟩, ⟨[6], none, false, false⟩),
 (⟨(some 19), (some (17, true)), (.mv (.t 0))⟩, ⟨[], none, false, false⟩),
 (⟨(some 20), (some (17, true)), (.iad 2 (.t 19) kZ)⟩, ⟨[], none, false, false⟩),
 (⟨(some 21), (some (17, true)), (.ld true 2 (.t 20))⟩, ⟨[], none, true, false⟩),
 (⟨(some 22), (some (17, true)), (.eqc true [true, true] (.t 18) (.t 21))⟩, ⟨[], none, false, false⟩),
 xU 23 (.pick (.t 17) (.t 22) (.k bF)),
 xU 14 (.mv (.t 23))])
 (.cond (.t 14) (.reg [] [xC 24 (.mv (.t 5)),
 xC 4 (.mv (.t 24))]) (.seq (.regd [] [[], [0], [1], [2], [3, 2], [4, 2], [2], [2], [6, 7, 2], [8, 2], [2], [5, 9, 10, 2, 2], [11, 2], [2, 12], [13, 11]] [xU 26 (.mv (.t 4)),
 xU 27 (.bin .gtr (.t 26) kZ),
 xU 28 (.mv (.t 27)),
 (⟨(some 29), (some (28, true)), (.mv (.t 0))⟩, ⟨[], none, false, false⟩),
 (⟨(some 30), (some (28, true)), (.iad 2 (.t 29) kZ)⟩, ⟨[], none, false, false⟩),
 (⟨(some 31), (some (28, true)), (.ld true 2 (.t 30))⟩, ⟨[], none, true, false⟩),
 (⟨(some 32), (some (28, true)), (.mv (.t 0))⟩, ⟨[], none, false, false⟩),
 (⟨(some 33), (some (28, true)), (.mv (.t 4))⟩, ⟨[], none, false, false⟩),
 (⟨(some 34), (some (28, true)), (.iad 2 (.t 32) (.t 33))⟩, ⟨[], none, false, false⟩),
 (⟨(some 35), (some (28, true)), (.ld true 2 (.t 34))⟩, ⟨[], none, true, false⟩),
 (⟨(some 36), (some (28, true)), (.ld true 2 (.t 6))⟩, ⟨[6], none, false, false⟩),
 (⟨(some 37), (some (28, true)), (.call 89 [(.t 31), (.t 35), (.t 36)])⟩, ⟨[], none, true, false⟩),
 (⟨(some 38), (some (28, true)), (.bin .neq (.t 37) kZ)⟩, ⟨[], none, false, false⟩),
 xU 39 (.pick (.t 28) (.t 38) (.k bF)),
 xU 25 (.mv (.t 39))])
 (.cond (.t 25) (.seq (.reg [] [xC 40 (.mv (.t 4)),
 xC 41 (.mv (.t 5)),
 xC 42 (.bld [(zN 0), (zN 0), (zN 0)] [(0, (1, kZ)), (1, (1, (.t 40))), (2, (1, (.t 41)))]),
 ⟨none, none, (.st 3 (.t 2) (.t 42))⟩,
 xC 3 (.mv (.k bT))])
 .ret) .skip)))))))
 (.reg [] [xC 43 (.bin .add (.t 9) (kN 1)),
 xC 9 (.mv (.t 43))])))))))
 (.seq (.reg [] [xC 44 (.bld [(zN 0), (zN 0), (zN 0)] []),
 ⟨none, none, (.st 3 (.t 2) (.t 44))⟩,
 xC 3 (.mv (.k bF))])
 .ret)))), [(.cell 2 true 3), (.tmp 3)], [], true⟩
theorem hb71 : hasBody Tryz.prog 71 = true := by kernel_rfl
theorem fk71 : FEOK Tryz.prog 71 fe71 := ⟨by kernel_rfl, by kernel_rfl, hb71⟩
/-- isohyet/mesh.New -/
def fe72 : FE := ⟨102, (.seq (.reg [] [xC 8 (.mv (.k (.lit (.pointer none)))),
 xC 9 (.mv (.k bF))])
 (.seq (.reg [] [xC 16 (.mv (.t 0)),
 xC 17 (.app 2 16 (.k sZ) (.t 16)),
 xC 18 (.bld [sZ, sZ, sZ, sZ] [(0, (1, (.t 17)))]),
 xC 19 (.box (.t 18)),
 xC 10 (.mv (.t 19))])
 (.seq (.seq (.reg [] [xC 20 (.mv (.t 0)),
 xC 21 (.len (.t 20)),
 xC 22 (.mv kZ)])
 (.block 0 (.loop (.seq (.reg [] [xC 23 (.bin .lss (.t 22) (.t 21))])
 (.seq (.cond (.t 23) .skip (.exit 0))
 (.seq (.block 1 (.reg [] [xC 24 (.mv (.t 10)),
 xC 25 (.mv (.t 10)),
 xC 26 (.nck (.t 25)),
 xC 27 (.fad 3 (.t 26)),
 xC 28 (.ld false 1 (.t 27)),
 xC 29 (.bsl 1 1 [(zN 0)] [(0, (1, (.k (.lit (.int .i64 (-1))))))]),
 xC 30 (.app 1 8 (.t 28) (.t 29)),
 xC 31 (.nck (.t 24)),
 xC 32 (.fad 3 (.t 31)),
 ⟨none, none, (.st 1 (.t 32) (.t 30))⟩]))
 (.reg [] [xC 33 (.bin .add (.t 22) (kN 1)),
 xC 22 (.mv (.t 33))])))))))
 (.seq (.seq (.regd [] [[], [], [0, 1], [2], [], [], [4, 5], [6], [], [], [8, 9], [10], [3, 7, 11]] [xU 34 (.mv (.t 0)),
 xU 35 (.mv (.t 1)),
 xU 36 (.iad 2 (.t 34) (.t 35)),
 xV 37 (.ld true 2 (.t 36)),
 xU 38 (.mv (.t 0)),
 xU 39 (.mv (.t 2)),
 xU 40 (.iad 2 (.t 38) (.t 39)),
 xV 41 (.ld true 2 (.t 40)),
 xU 42 (.mv (.t 0)),
 xU 43 (.mv (.t 3)),
 xU 44 (.iad 2 (.t 42) (.t 43)),
 xV 45 (.ld true 2 (.t 44)),
 xV 46 (.call 89 [(.t 37), (.t 41), (.t 45)])])
 (.block 2 (.seq (.reg [] [xC 48 (.bin .eql (.t 46) kZ),
 xC 47 (.mv (.t 48))])
 (.cond (.t 47) (.seq (.reg [] [xC 8 (.mv (.k (.lit (.pointer none)))),
 xC 9 (.mv (.k bF))])
 .ret) (.seq (.reg [] [xC 50 (.bin .eql (.t 46) (.k (.lit (.int .i64 (-1))))),
 xC 49 (.mv (.t 50))])
 (.cond (.t 49) (.reg [] [xC 51 (.mv (.t 3)),
 xC 52 (.mv (.t 2)),
 xC 2 (.mv (.t 51)),
 xC 3 (.mv (.t 52))]) .skip))))))
 (.seq (.reg [] [xC 53 (.mv (.t 10)),
 xC 54 (.mv (.t 1)),
 xC 55 (.mv (.t 2)),
 xC 56 (.mv (.t 3)),
 xC 57 (.call 113 [(.t 53), (.t 54), (.t 55), (.t 56)]),
 xC 11 (.mv (.t 57))])
 (.seq (.reg [12] [xC 58 (.mv (.t 1)),
 xC 59 (.mv (.t 2)),
 xC 60 (.mv (.t 3)),
 xC 61 (.bld [(zN 0), (zN 0), (zN 0)] [(0, (1, (.t 58))), (1, (1, (.t 59))), (2, (1, (.t 60)))]),
 xC 12 (.new [(zN 0), (zN 0), (zN 0)]),
 ⟨none, none, (.st 3 (.t 12) (.t 61))⟩])
 (.seq (.reg [13] [xC 13 (.new [(zN 0), (zN 0), (zN 0)])])
 (.seq (.seq (.reg [] [xC 62 (.mv kZ)])
 (.block 3 (.loop (.seq (.reg [] [xC 63 (.bin .lss (.t 62) (kN 3))])
 (.seq (.cond (.t 63) .skip (.exit 3))
 (.seq (.block 4 (.seq (.reg [] [xC 64 (.mv (.t 62)),
 xC 14 (.mv (.t 64))])
 (.seq (.regd [] [[], [], [], [2], [3], [4], [5], [], [7], [8], [9], [10], [1, 6, 11], [0, 0, 1, 2, 3, 4, 5, 6, 7, 8, 9, 10, 11, 12], [13, 12, 12, 0, 1, 2, 3, 4, 5, 6, 7, 8, 9, 10, 11, 12]] [xU 65 (.mv (.t 14)),
 xU 66 (.mv (.t 10)),
 xU 67 (.mv (.t 14)),
 xU 68 (.bin .add (.t 67) (kN 2)),
 xU 69 (.bin .rem (.t 68) (kN 3)),
 (xC 70 (.iaa 3 1 (.t 12) (.t 69)), ⟨[12], none, false, false⟩),
 (xC 71 (.ld false 1 (.t 70)), ⟨[12], none, false, false⟩),
 xU 72 (.mv (.t 14)),
 xU 73 (.bin .add (.t 72) (kN 1)),
 xU 74 (.bin .rem (.t 73) (kN 3)),
 (xC 75 (.iaa 3 1 (.t 12) (.t 74)), ⟨[12], none, false, false⟩),
 (xC 76 (.ld false 1 (.t 75)), ⟨[12], none, false, false⟩),
 (xC 77 (.call 113 [(.t 66), (.t 71), (.t 76), (.k (.lit (.int .i64 (-1))))]), ⟨[], none, true, true⟩),
 (xC 78 (.iaa 3 1 (.t 13) (.t 65)), ⟨[13], none, false, false⟩),
 (⟨none, none, (.st 1 (.t 78) (.t 77))⟩, ⟨[13], some 13, false, false⟩)])
 (.reg [] [xC 79 (.mv (.t 10)),
 xC 80 (.mv (.t 11)),
 xC 81 (.mv (.t 14)),
 xC 82 (.mv (.t 14)),
 xC 83 (.iaa 3 1 (.t 13) (.t 82)),
 xC 84 (.ld false 1 (.t 83)),
 xC 85 (.call 114 [(.t 79), (.t 80), (.t 81), (.t 84), (kN 2), (.k bF)])]))))
 (.reg [] [xC 86 (.bin .add (.t 62) (kN 1)),
 xC 62 (.mv (.t 86))])))))))
 (.seq (.seq (.reg [] [xC 87 (.mv kZ)])
 (.block 5 (.loop (.seq (.reg [] [xC 88 (.bin .lss (.t 87) (kN 3))])
 (.seq (.cond (.t 88) .skip (.exit 5))
 (.seq (.block 6 (.seq (.reg [] [xC 89 (.mv (.t 87)),
 xC 15 (.mv (.t 89))])
 (.regd [] [[], [], [1], [2], [], [4], [5], [6], [7], [0, 3, 8]] [xU 90 (.mv (.t 10)),
 xU 91 (.mv (.t 15)),
 (xC 92 (.iaa 3 1 (.t 13) (.t 91)), ⟨[13], none, false, false⟩),
 (xC 93 (.ld false 1 (.t 92)), ⟨[13], none, false, false⟩),
 xU 94 (.mv (.t 15)),
 xU 95 (.bin .add (.t 94) (kN 1)),
 xU 96 (.bin .rem (.t 95) (kN 3)),
 (xC 97 (.iaa 3 1 (.t 13) (.t 96)), ⟨[13], none, false, false⟩),
 (xC 98 (.ld false 1 (.t 97)), ⟨[13], none, false, false⟩),
 (xC 99 (.call 114 [(.t 90), (.t 93), (kN 1), (.t 98), kZ, (.k bF)]), ⟨[], none, true, true⟩)])))
 (.reg [] [xC 100 (.bin .add (.t 87) (kN 1)),
 xC 87 (.mv (.t 100))])))))))
 (.seq (.reg [] [xC 101 (.mv (.t 10)),
 xC 8 (.mv (.t 101)),
 xC 9 (.mv (.k bT))])
 .ret)))))))))), [(.tmp 8), (.tmp 9)], [19], false⟩
theorem hb72 : hasBody Tryz.prog 72 = true := by kernel_rfl
theorem fk72 : FEOK Tryz.prog 72 fe72 := ⟨by kernel_rfl, by kernel_rfl, hb72⟩
/-- isohyet/grow.Insert -/
def fe73 : FE := ⟨133, (.seq (.reg [] [xC 6 (.mv (.k bF))])
 (.seq (.reg [7] [xC 22 (.mv (.t 0)),
 xC 23 (.nck (.t 22)),
 xC 24 (.fad 0 (.t 23)),
 xC 25 (.ld false 1 (.t 24)),
 xC 26 (.mv (.t 1)),
 xC 27 (.iad 2 (.t 25) (.t 26)),
 xC 28 (.ld true 2 (.t 27)),
 xC 7 (.new [(zN 0), (zN 0)]),
 ⟨none, none, (.st 2 (.t 7) (.t 28))⟩])
 (.seq (.regd [8] [[], [], [], [], [3], [4], [5], [6], [7], [0, 1, 2, 8], [9], [10], [10], [], [13, 11, 9, 0, 1, 2, 3, 4, 5, 6, 7, 8, 9, 10, 11, 13], [12, 14, 0, 1, 2, 3, 4, 5, 6, 7, 8, 9, 10, 11, 12, 13, 14]] [xU 30 (.mv (.t 0)),
 (xC 31 (.ld true 2 (.t 7)), ⟨[7], none, false, false⟩),
 xU 32 (.mv (.t 2)),
 xU 33 (.mv (.t 0)),
 xU 34 (.nck (.t 33)),
 xU 35 (.fad 1 (.t 34)),
 xV 36 (.ld false 1 (.t 35)),
 xU 37 (.len (.t 36)),
 xU 38 (.bin .add (.t 37) (kN 1)),
 xV 39 (.call 115 [(.t 30), (.t 31), (.t 32), (.t 38)]),
 xU 29 (.mv (.t 39)),
 xU 40 (.ext (.t 29) 0),
 xU 41 (.ext (.t 29) 1),
 (xC 8 (.new [(zN 0), (zN 0), (zN 0), (zN 0)]), ⟨[8], some 8, false, false⟩),
 (⟨none, none, (.st 4 (.t 8) (.t 40))⟩, ⟨[8], some 8, false, false⟩),
 xU 9 (.mv (.t 41))])
 (.seq (.seq (.reg [] [xC 42 (.fad 0 (.t 8)),
 xC 43 (.ld false 1 (.t 42)),
 xC 44 (.bin .eql (.t 43) (kN 2))])
 (.cond (.t 44) (.seq (.reg [] [xC 6 (.mv (.k bF))])
 .ret) .skip))
 (.seq (.reg [10] [xC 46 (.mv (.t 0)),
 xC 47 (.ld true 4 (.t 8)),
 xC 48 (.call 116 [(.t 46), (.t 47)]),
 xC 45 (.mv (.t 48)),
 xC 49 (.ext (.t 45) 0),
 xC 50 (.ext (.t 45) 1),
 xC 10 (.new [(zN 0), (zN 0)]),
 ⟨none, none, (.st 2 (.t 10) (.t 49))⟩,
 xC 11 (.mv (.t 50))])
 (.seq (.reg [12] [xC 51 (.mv (.t 0)),
 xC 52 (.ld true 2 (.t 7)),
 xC 53 (.ld true 4 (.t 8)),
 xC 54 (.call 19 [(.t 51), (.t 52), (.t 53)]),
 xC 12 (.new [sZ, sZ, bF]),
 ⟨none, none, (.st 3 (.t 12) (.t 54))⟩])
 (.seq (.seq (.reg [] [xC 55 (.fad 0 (.t 12)),
 xC 56 (.ld false 1 (.t 55)),
 xC 57 (.len (.t 56)),
 xC 58 (.mv kZ)])
 (.block 0 (.loop (.seq (.reg [] [xC 59 (.bin .lss (.t 58) (.t 57))])
 (.seq (.cond (.t 59) .skip (.exit 0))
 (.seq (.block 1 (.seq (.reg [] [xC 60 (.iad 1 (.t 56) (.t 58)),
 xC 61 (.ld false 1 (.t 60)),
 xC 14 (.mv (.t 61))])
 (.reg [] [xC 62 (.mv (.t 0)),
 xC 63 (.mv (.t 14)),
 xC 64 (.call 117 [(.t 62), (.t 63)])])))
 (.reg [] [xC 65 (.bin .add (.t 58) (kN 1)),
 xC 58 (.mv (.t 65))])))))))
 (.seq (.reg [] [xC 15 (.mv (.k sZ))])
 (.seq (.seq (.reg [] [xC 66 (.fad 1 (.t 12)),
 xC 67 (.ld false 1 (.t 66)),
 xC 68 (.len (.t 67)),
 xC 69 (.mv kZ)])
 (.block 2 (.loop (.seq (.reg [] [xC 70 (.bin .lss (.t 69) (.t 68))])
 (.seq (.cond (.t 70) .skip (.exit 2))
 (.seq (.block 3 (.seq (.reg [17] [xC 71 (.iad 5 (.t 67) (.t 69)),
 xC 72 (.ld true 5 (.t 71)),
 xC 17 (.new [(zN 0), (zN 0), (zN 0), (zN 0), bF]),
 ⟨none, none, (.st 5 (.t 17) (.t 72))⟩])
 (.seq (.reg [] [xC 73 (.mv (.t 0)),
 xC 74 (.fad 0 (.t 17)),
 xC 75 (.ld false 1 (.t 74)),
 xC 76 (.fad 1 (.t 17)),
 xC 77 (.ld false 1 (.t 76)),
 xC 78 (.mv (.t 1)),
 xC 79 (.call 113 [(.t 73), (.t 75), (.t 77), (.t 78)]),
 xC 18 (.mv (.t 79))])
 (.seq (.reg [] [xC 80 (.mv (.t 0)),
 xC 81 (.mv (.t 18)),
 xC 82 (.fad 2 (.t 17)),
 xC 83 (.ld false 1 (.t 82)),
 xC 84 (.fad 3 (.t 17)),
 xC 85 (.ld false 1 (.t 84)),
 xC 86 (.fad 4 (.t 17)),
 xC 87 (.ld false 1 (.t 86)),
 xC 88 (.call 114 [(.t 80), (.t 81), (kN 2), (.t 83), (.t 85), (.t 87)])])
 (.reg [] [xC 89 (.mv (.t 15)),
 xC 90 (.mv (.t 18)),
 xC 91 (.bsl 1 1 [(zN 0)] [(0, (1, (.t 90)))]),
 xC 92 (.app 1 8 (.t 89) (.t 91)),
 xC 15 (.mv (.t 92))])))))
 (.reg [] [xC 93 (.bin .add (.t 69) (kN 1)),
 xC 69 (.mv (.t 93))])))))))
 (.seq (.seq (.reg [] [xC 94 (.fad 1 (.t 12)),
 xC 95 (.ld false 1 (.t 94)),
 xC 96 (.len (.t 95)),
 xC 97 (.mv kZ)])
 (.block 4 (.loop (.seq (.reg [] [xC 98 (.bin .lss (.t 97) (.t 96))])
 (.seq (.cond (.t 98) .skip (.exit 4))
 (.seq (.block 5 (.seq (.reg [20] [xC 99 (.mv (.t 97)),
 xC 100 (.iad 5 (.t 95) (.t 97)),
 xC 101 (.ld true 5 (.t 100)),
 xC 20 (.new [(zN 0), (zN 0), (zN 0), (zN 0), bF]),
 xC 19 (.mv (.t 99)),
 ⟨none, none, (.st 5 (.t 20) (.t 101))⟩])
 (.seq (.reg [] [xC 102 (.mv (.t 11)),
 xC 103 (.mv (.t 102)),
 ⟨(some 104), (some (103, true)), (.fad 1 (.t 20))⟩,
 ⟨(some 105), (some (103, true)), (.ld false 1 (.t 104))⟩,
 ⟨(some 106), (some (103, true)), (.iaa 2 1 (.t 10) kZ)⟩,
 ⟨(some 107), (some (103, true)), (.ld false 1 (.t 106))⟩,
 ⟨(some 108), (some (103, true)), (.bin .eql (.t 105) (.t 107))⟩,
 ⟨(some 109), (some (103, true)), (.mv (.t 108))⟩,
 ⟨(some 110), (some (109, false)), (.fad 1 (.t 20))⟩,
 ⟨(some 111), (some (109, false)), (.ld false 1 (.t 110))⟩,
 ⟨(some 112), (some (109, false)), (.iaa 2 1 (.t 10) (kN 1))⟩,
 ⟨(some 113), (some (109, false)), (.ld false 1 (.t 112))⟩,
 ⟨(some 114), (some (109, false)), (.bin .eql (.t 111) (.t 113))⟩,
 ⟨(some 115), (some (103, true)), (.pick (.t 109) (.k bT) (.t 114))⟩,
 xC 116 (.pick (.t 103) (.t 115) (.k bF)),
 xC 21 (.mv (.t 116))])
 (.regd [] [[], [], [], [1, 2], [3], [], [], [6], [], [8], [7, 9], [5, 10], [11], [], [0, 4, 12, 13]] [xU 117 (.mv (.t 0)),
 xU 118 (.mv (.t 15)),
 xU 119 (.mv (.t 19)),
 xU 120 (.iad 1 (.t 118) (.t 119)),
 xV 121 (.ld false 1 (.t 120)),
 xU 122 (.mv (.t 15)),
 xU 123 (.mv (.t 19)),
 xU 124 (.bin .add (.t 123) (kN 1)),
 xU 125 (.mv (.t 15)),
 xU 126 (.len (.t 125)),
 xU 127 (.bin .rem (.t 124) (.t 126)),
 xU 128 (.iad 1 (.t 122) (.t 127)),
 xV 129 (.ld false 1 (.t 128)),
 xU 130 (.mv (.t 21)),
 (xC 131 (.call 114 [(.t 117), (.t 121), kZ, (.t 129), (kN 1), (.t 130)]), ⟨[], none, true, true⟩)]))))
 (.reg [] [xC 132 (.bin .add (.t 97) (kN 1)),
 xC 97 (.mv (.t 132))])))))))
 (.seq (.reg [] [xC 6 (.mv (.k bT))])
 .ret))))))))))), [(.tmp 6)], [], false⟩
theorem hb73 : hasBody Tryz.prog 73 = true := by kernel_rfl
theorem fk73 : FEOK Tryz.prog 73 fe73 := ⟨by kernel_rfl, by kernel_rfl, hb73⟩
/-- (*isohyet/mesh.Mesh).At -/
def fe74 : FE := ⟨12, (.seq (.reg [] [xC 4 (.mv kZ)])
 (.seq (.reg [] [xC 5 (.mv (.t 0)),
 xC 6 (.nck (.t 5)),
 xC 7 (.fad 3 (.t 6)),
 xC 8 (.ld false 1 (.t 7)),
 xC 9 (.mv (.t 1)),
 xC 10 (.iad 1 (.t 8) (.t 9)),
 xC 11 (.ld false 1 (.t 10)),
 xC 4 (.mv (.t 11))])
 .ret)), [(.tmp 4)], [], true⟩
theorem hb74 : hasBody Tryz.prog 74 = true := by kernel_rfl
theorem fk74 : FEOK Tryz.prog 74 fe74 := ⟨by kernel_rfl, by kernel_rfl, hb74⟩
/-- (*isohyet/mesh.Mesh).All -/
def fe75 : FE := ⟨4, (.seq (.reg [] [xC 1 (.box (.t 0)),
 xC 2 (.mv (.k (.lit .nilFunc)))])
 (.seq (.reg [] [xC 3 (.mkf 118 [(.t 1)]),
 xC 2 (.mv (.t 3))])
 .ret)), [(.tmp 2)], [1], true⟩
theorem hb75 : hasBody Tryz.prog 75 = true := by kernel_rfl
theorem fk75 : FEOK Tryz.prog 75 fe75 := ⟨by kernel_rfl, by kernel_rfl, hb75⟩
/-- isohyet/walk.Holds -/
def fe76 : FE := ⟨34, (.seq (.reg [5] [xC 5 (.box (.t 2)),
 xC 6 (.mv (.k bF))])
 (.seq (.reg [7] [xC 8 (.mv (.t 0)),
 xC 9 (.nck (.t 8)),
 xC 10 (.fad 1 (.t 9)),
 xC 11 (.ld false 1 (.t 10)),
 xC 12 (.mv (.t 1)),
 xC 13 (.iad 9 (.t 11) (.t 12)),
 xC 14 (.ld true 9 (.t 13)),
 xC 7 (.new [(zN 0), (zN 0), (zN 0), (zN 0), (zN 0), (zN 0), bF, bF, bF]),
 ⟨none, none, (.st 9 (.t 7) (.t 14))⟩])
 (.seq (.reg [] [xC 15 (.mv (.t 0)),
 xC 16 (.ld true 9 (.t 7)),
 xC 17 (.ld true 2 (.t 5)),
 xC 18 (.call 78 [(.t 15), (.t 16), kZ, (.t 17)]),
 xC 19 (.un .not (.t 18)),
 xC 20 (.mv (.t 19)),
 ⟨(some 21), (some (20, true)), (.mv (.t 0))⟩,
 ⟨(some 22), (some (20, true)), (.ld true 9 (.t 7))⟩,
 ⟨(some 23), (some (20, true)), (.ld true 2 (.t 5))⟩,
 ⟨(some 24), (some (20, true)), (.call 78 [(.t 21), (.t 22), (kN 1), (.t 23)])⟩,
 ⟨(some 25), (some (20, true)), (.un .not (.t 24))⟩,
 xC 26 (.pick (.t 20) (.t 25) (.k bF)),
 xC 27 (.mv (.t 26)),
 ⟨(some 28), (some (27, true)), (.mv (.t 0))⟩,
 ⟨(some 29), (some (27, true)), (.ld true 9 (.t 7))⟩,
 ⟨(some 30), (some (27, true)), (.ld true 2 (.t 5))⟩,
 ⟨(some 31), (some (27, true)), (.call 78 [(.t 28), (.t 29), (kN 2), (.t 30)])⟩,
 ⟨(some 32), (some (27, true)), (.un .not (.t 31))⟩,
 xC 33 (.pick (.t 27) (.t 32) (.k bF)),
 xC 6 (.mv (.t 33))])
 .ret))), [(.tmp 6)], [], true⟩
theorem hb76 : hasBody Tryz.prog 76 = true := by kernel_rfl
theorem fk76 : FEOK Tryz.prog 76 fe76 := ⟨by kernel_rfl, by kernel_rfl, hb76⟩
/-- isohyet/walk.within -/
def fe77 : FE := ⟨79, (.seq (.reg [5, 6] [xC 5 (.box (.t 2)),
 xC 6 (.new [(zN 0), (zN 0), (zN 0), (zN 0)])])
 (.seq (.reg [7] [xC 13 (.mv (.t 0)),
 xC 14 (.nck (.t 13)),
 xC 15 (.fad 1 (.t 14)),
 xC 16 (.ld false 1 (.t 15)),
 xC 17 (.mv (.t 1)),
 xC 18 (.iad 9 (.t 16) (.t 17)),
 xC 19 (.fad 0 (.t 18)),
 xC 20 (.ld true 3 (.t 19)),
 xC 7 (.new [(zN 0), (zN 0), (zN 0)]),
 ⟨none, none, (.st 3 (.t 7) (.t 20))⟩])
 (.seq (.seq (.reg [] [xC 21 (.ld true 3 (.t 7)),
 xC 22 (.mv kZ)])
 (.block 0 (.loop (.seq (.reg [] [xC 23 (.bin .lss (.t 22) (kN 3))])
 (.seq (.cond (.t 23) .skip (.exit 0))
 (.seq (.block 1 (.seq (.reg [] [xC 24 (.ixa 3 1 false (.t 21) (.t 22)),
 xC 9 (.mv (.t 24))])
 (.seq (.regd [] [[], [0], [1], [2], [], [3, 4], [5], [], [6, 7]] [xU 25 (.mv (.t 0)),
 xU 26 (.nck (.t 25)),
 xU 27 (.fad 0 (.t 26)),
 xV 28 (.ld false 1 (.t 27)),
 xU 29 (.mv (.t 9)),
 xU 30 (.iad 2 (.t 28) (.t 29)),
 xV 31 (.ld true 2 (.t 30)),
 (xC 32 (.ld true 2 (.t 5)), ⟨[5], none, false, false⟩),
 xU 33 (.eqc false [true, true] (.t 31) (.t 32))])
 (.cond (.t 33) (.seq (.reg [] [xC 34 (.mv (.t 1)),
 xC 35 (.mv (.t 9)),
 xC 36 (.bld [(zN 0), (zN 0), (zN 0), (zN 0)] [(0, (1, (kN 2))), (1, (1, (.t 34))), (2, (1, (.t 35)))]),
 ⟨none, none, (.st 4 (.t 6) (.t 36))⟩])
 .ret) .skip))))
 (.reg [] [xC 37 (.bin .add (.t 22) (kN 1)),
 xC 22 (.mv (.t 37))])))))))
 (.seq (.seq (.reg [] [xC 38 (.mv kZ)])
 (.block 2 (.loop (.seq (.reg [] [xC 39 (.bin .lss (.t 38) (kN 3))])
 (.seq (.cond (.t 39) .skip (.exit 2))
 (.seq (.block 3 (.seq (.reg [] [xC 40 (.mv (.t 38)),
 xC 10 (.mv (.t 40))])
 (.seq (.regd [] [[], [0], [1], [2], [3], [], [5], [6], [7], [8], [4, 0, 1, 2, 3, 4], [9, 10, 0, 1, 2, 3, 4, 5, 6, 7, 8, 9, 10]] [xU 41 (.mv (.t 10)),
 xU 42 (.bin .add (.t 41) (kN 1)),
 xU 43 (.bin .rem (.t 42) (kN 3)),
 (xC 44 (.iaa 3 1 (.t 7) (.t 43)), ⟨[7], none, false, false⟩),
 (xC 45 (.ld false 1 (.t 44)), ⟨[7], none, false, false⟩),
 xU 46 (.mv (.t 10)),
 xU 47 (.bin .add (.t 46) (kN 2)),
 xU 48 (.bin .rem (.t 47) (kN 3)),
 (xC 49 (.iaa 3 1 (.t 7) (.t 48)), ⟨[7], none, false, false⟩),
 (xC 50 (.ld false 1 (.t 49)), ⟨[7], none, false, false⟩),
 xU 11 (.mv (.t 45)),
 xU 12 (.mv (.t 50))])
 (.seq (.regd [] [[], [0], [1], [2], [], [3, 4], [5], [], [7], [8], [9], [], [10, 11], [12], [], [6, 13, 14], [15]] [xU 51 (.mv (.t 0)),
 xU 52 (.nck (.t 51)),
 xU 53 (.fad 0 (.t 52)),
 xV 54 (.ld false 1 (.t 53)),
 xU 55 (.mv (.t 11)),
 xU 56 (.iad 2 (.t 54) (.t 55)),
 xV 57 (.ld true 2 (.t 56)),
 xU 58 (.mv (.t 0)),
 xU 59 (.nck (.t 58)),
 xU 60 (.fad 0 (.t 59)),
 xV 61 (.ld false 1 (.t 60)),
 xU 62 (.mv (.t 12)),
 xU 63 (.iad 2 (.t 61) (.t 62)),
 xV 64 (.ld true 2 (.t 63)),
 (xC 65 (.ld true 2 (.t 5)), ⟨[5], none, false, false⟩),
 xV 66 (.call 89 [(.t 57), (.t 64), (.t 65)]),
 xU 67 (.bin .eql (.t 66) kZ)])
 (.cond (.t 67) (.seq (.reg [] [xC 68 (.mv (.t 1)),
 xC 69 (.mv (.t 11)),
 xC 70 (.mv (.t 12)),
 xC 71 (.mnx false [(.t 69), (.t 70)]),
 xC 72 (.mv (.t 11)),
 xC 73 (.mv (.t 12)),
 xC 74 (.mnx true [(.t 72), (.t 73)]),
 xC 75 (.bld [(zN 0), (zN 0), (zN 0), (zN 0)] [(0, (1, (kN 1))), (1, (1, (.t 68))), (2, (1, (.t 71))), (3, (1, (.t 74)))]),
 ⟨none, none, (.st 4 (.t 6) (.t 75))⟩])
 .ret) .skip)))))
 (.reg [] [xC 76 (.bin .add (.t 38) (kN 1)),
 xC 38 (.mv (.t 76))])))))))
 (.seq (.reg [] [xC 77 (.mv (.t 1)),
 xC 78 (.bld [(zN 0), (zN 0), (zN 0), (zN 0)] [(0, (1, kZ)), (1, (1, (.t 77)))]),
 ⟨none, none, (.st 4 (.t 6) (.t 78))⟩])
 .ret))))), [(.cell 6 true 4)], [], true⟩
theorem hb77 : hasBody Tryz.prog 77 = true := by kernel_rfl
theorem fk77 : FEOK Tryz.prog 77 fe77 := ⟨by kernel_rfl, by kernel_rfl, hb77⟩
/-- isohyet/walk.beyond -/
def fe78 : FE := ⟨36, (.seq (.reg [5, 7] [xC 5 (.box (.t 1)),
 xC 7 (.box (.t 3)),
 xC 8 (.mv (.k bF))])
 (.seq (.regd [] [[], [0], [1], [2], [], [4], [5], [], [7, 6], [8], [3, 9], [10], [], [12], [13], [14], [], [16], [17], [], [19, 18], [20], [15, 21], [22], [], [11, 23, 24], [25], [26, 25, 0, 1, 2, 3, 4, 5, 6, 7, 8, 9, 10, 11, 12, 13, 14, 15, 16, 17, 18, 19, 20, 21, 22, 23, 24, 25, 26]] [xU 9 (.mv (.t 0)),
 xU 10 (.nck (.t 9)),
 xU 11 (.fad 0 (.t 10)),
 xV 12 (.ld false 1 (.t 11)),
 xU 13 (.mv (.t 2)),
 xU 14 (.bin .add (.t 13) (kN 1)),
 xU 15 (.bin .rem (.t 14) (kN 3)),
 (xC 16 (.fad 0 (.t 5)), ⟨[5], none, false, false⟩),
 (xC 17 (.iaa 3 1 (.t 16) (.t 15)), ⟨[5], none, false, false⟩),
 (xC 18 (.ld false 1 (.t 17)), ⟨[5], none, false, false⟩),
 xU 19 (.iad 2 (.t 12) (.t 18)),
 xV 20 (.ld true 2 (.t 19)),
 xU 21 (.mv (.t 0)),
 xU 22 (.nck (.t 21)),
 xU 23 (.fad 0 (.t 22)),
 xV 24 (.ld false 1 (.t 23)),
 xU 25 (.mv (.t 2)),
 xU 26 (.bin .add (.t 25) (kN 2)),
 xU 27 (.bin .rem (.t 26) (kN 3)),
 (xC 28 (.fad 0 (.t 5)), ⟨[5], none, false, false⟩),
 (xC 29 (.iaa 3 1 (.t 28) (.t 27)), ⟨[5], none, false, false⟩),
 (xC 30 (.ld false 1 (.t 29)), ⟨[5], none, false, false⟩),
 xU 31 (.iad 2 (.t 24) (.t 30)),
 xV 32 (.ld true 2 (.t 31)),
 (xC 33 (.ld true 2 (.t 7)), ⟨[7], none, false, false⟩),
 xV 34 (.call 89 [(.t 20), (.t 32), (.t 33)]),
 xU 35 (.bin .lss (.t 34) kZ),
 xU 8 (.mv (.t 35))])
 .ret)), [(.tmp 8)], [], true⟩
theorem hb78 : hasBody Tryz.prog 78 = true := by kernel_rfl
theorem fk78 : FEOK Tryz.prog 78 fe78 := ⟨by kernel_rfl, by kernel_rfl, hb78⟩
/-- isohyet/num.Cmp -/
def fe80 : FE := ⟨26, (.seq (.reg [2, 3] [xC 2 (.box (.t 0)),
 xC 3 (.box (.t 1)),
 xC 4 (.mv kZ)])
 (.seq (.regd [] [[], [0], [], [2, 1], [1, 3, 0, 1], [3, 4, 0, 1, 2, 3, 4]] [(xC 7 (.ld true 2 (.t 2)), ⟨[2], none, false, false⟩),
 xV 8 (.call 66 [(.t 7)]),
 (xC 9 (.ld true 2 (.t 3)), ⟨[3], none, false, false⟩),
 xV 10 (.call 66 [(.t 9)]),
 xU 5 (.mv (.t 8)),
 xU 6 (.mv (.t 10))])
 (.seq (.block 0 (.seq (.reg [] [xC 12 (.mv (.t 5)),
 xC 13 (.mv (.t 6)),
 xC 14 (.bin .lss (.t 12) (.t 13)),
 xC 11 (.mv (.t 14))])
 (.cond (.t 11) (.seq (.reg [] [xC 4 (.mv (.k (.lit (.int .i64 (-1)))))])
 .ret) (.seq (.reg [] [xC 16 (.mv (.t 5)),
 xC 17 (.mv (.t 6)),
 xC 18 (.bin .gtr (.t 16) (.t 17)),
 xC 15 (.mv (.t 18))])
 (.cond (.t 15) (.seq (.reg [] [xC 4 (.mv (kN 1))])
 .ret) .skip)))))
 (.seq (.reg [] [xC 19 (.mv (.t 5)),
 xC 20 (.fad 1 (.t 2)),
 xC 21 (.ld false 1 (.t 20)),
 xC 22 (.fad 1 (.t 3)),
 xC 23 (.ld false 1 (.t 22)),
 xC 24 (.call 107 [(.t 21), (.t 23)]),
 xC 25 (.bin .mul (.t 19) (.t 24)),
 xC 4 (.mv (.t 25))])
 .ret)))), [(.tmp 4)], [], true⟩
theorem hb80 : hasBody Tryz.prog 80 = true := by kernel_rfl
theorem fk80 : FEOK Tryz.prog 80 fe80 := ⟨by kernel_rfl, by kernel_rfl, hb80⟩
/-- isohyet/frac.one -/
def fe81 : FE := ⟨2, (.seq (.reg [] [xC 0 (.mv (.k sZ))])
 (.seq (.reg [] [xC 1 (.bsl 1 1 [(.lit (.int .u64 0))] [(0, (1, (.k (.lit (.int .u64 1)))))]),
 xC 0 (.mv (.t 1))])
 .ret)), [(.tmp 0)], [1], true⟩
theorem hb81 : hasBody Tryz.prog 81 = true := by kernel_rfl
theorem fk81 : FEOK Tryz.prog 81 fe81 := ⟨by kernel_rfl, by kernel_rfl, hb81⟩
/-- isohyet/mag.Of -/
def fe82 : FE := ⟨6, (.seq (.reg [] [xC 2 (.mv (.k sZ))])
 (.seq (.reg [] [xC 3 (.mv (.t 0)),
 xC 4 (.bsl 1 1 [(.lit (.int .u64 0))] [(0, (1, (.t 3)))]),
 xC 5 (.call 106 [(.t 4)]),
 xC 2 (.mv (.t 5))])
 .ret)), [(.tmp 2)], [], true⟩
theorem hb82 : hasBody Tryz.prog 82 = true := by kernel_rfl
theorem fk82 : FEOK Tryz.prog 82 fe82 := ⟨by kernel_rfl, by kernel_rfl, hb82⟩
/-- (*isohyet/mesh.Mesh).Around -/
def fe88 : FE := ⟨6, (.seq (.reg [] [xC 2 (.box (.t 0)),
 xC 3 (.box (.t 1)),
 xC 4 (.mv (.k (.lit .nilFunc)))])
 (.seq (.reg [] [xC 5 (.mkf 126 [(.t 2), (.t 3)]),
 xC 4 (.mv (.t 5))])
 .ret)), [(.tmp 4)], [2, 3], true⟩
theorem hb88 : hasBody Tryz.prog 88 = true := by kernel_rfl
theorem fk88 : FEOK Tryz.prog 88 fe88 := ⟨by kernel_rfl, by kernel_rfl, hb88⟩
/-- isohyet/pred.Orient -/
def fe89 : FE := ⟨12, (.seq (.reg [3, 4, 5] [xC 3 (.box (.t 0)),
 xC 4 (.box (.t 1)),
 xC 5 (.box (.t 2)),
 xC 6 (.mv kZ)])
 (.seq (.reg [] [xC 7 (.ld true 2 (.t 3)),
 xC 8 (.ld true 2 (.t 4)),
 xC 9 (.ld true 2 (.t 5)),
 xC 10 (.call 97 [(.t 7), (.t 8), (.t 9)]),
 xC 11 (.call 128 [(.t 10)]),
 xC 6 (.mv (.t 11))])
 .ret)), [(.tmp 6)], [], true⟩
theorem hb89 : hasBody Tryz.prog 89 = true := by kernel_rfl
theorem fk89 : FEOK Tryz.prog 89 fe89 := ⟨by kernel_rfl, by kernel_rfl, hb89⟩
/-- isohyet/pred.Between -/
def fe90 : FE := ⟨21, (.seq (.reg [3, 4, 5] [xC 3 (.box (.t 0)),
 xC 4 (.box (.t 1)),
 xC 5 (.box (.t 2)),
 xC 6 (.mv (.k bF))])
 (.seq (.reg [] [xC 7 (.ld true 2 (.t 3)),
 xC 8 (.ld true 2 (.t 4)),
 xC 9 (.eqc true [true, true] (.t 7) (.t 8)),
 xC 10 (.mv (.t 9)),
 ⟨(some 11), (some (10, true)), (.ld true 2 (.t 3))⟩,
 ⟨(some 12), (some (10, true)), (.ld true 2 (.t 5))⟩,
 ⟨(some 13), (some (10, true)), (.eqc true [true, true] (.t 11) (.t 12))⟩,
 xC 14 (.pick (.t 10) (.t 13) (.k bF)),
 xC 15 (.mv (.t 14)),
 ⟨(some 16), (some (15, true)), (.ld true 2 (.t 3))⟩,
 ⟨(some 17), (some (15, true)), (.ld true 2 (.t 4))⟩,
 ⟨(some 18), (some (15, true)), (.ld true 2 (.t 5))⟩,
 ⟨(some 19), (some (15, true)), (.call 129 [(.t 16), (.t 17), (.t 18)])⟩,
 xC 20 (.pick (.t 15) (.t 19) (.k bF)),
 xC 6 (.mv (.t 20))])
 .ret)), [(.tmp 6)], [], true⟩
theorem hb90 : hasBody Tryz.prog 90 = true := by kernel_rfl
theorem fk90 : FEOK Tryz.prog 90 fe90 := ⟨by kernel_rfl, by kernel_rfl, hb90⟩
/-- isohyet/pred.Circle -/
def fe91 : FE := ⟨98, (.seq (.reg [4, 5, 6, 7] [xC 4 (.box (.t 0)),
 xC 5 (.box (.t 1)),
 xC 6 (.box (.t 2)),
 xC 7 (.box (.t 3)),
 xC 8 (.mv kZ)])
 (.seq (.regd [] [[], [0], [], [2], [1, 3], [], [5], [], [7], [6, 8], [], [10], [], [12], [11, 13], [], [15], [], [17], [16, 18], [], [20], [], [22], [21, 23], [], [25], [], [27], [26, 28], [4, 0, 1, 2, 3, 4], [9, 30, 0, 1, 2, 3, 4, 5, 6, 7, 8, 9, 30], [14, 31, 0, 1, 2, 3, 4, 5, 6, 7, 8, 9, 10, 11, 12, 13, 14, 30, 31], [19, 32, 0, 1, 2, 3, 4, 5, 6, 7, 8, 9, 10, 11, 12, 13, 14, 15, 16, 17, 18, 19, 30, 31, 32], [24, 33, 0, 1, 2, 3, 4, 5, 6, 7, 8, 9, 10, 11, 12, 13, 14, 15, 16, 17, 18, 19, 20, 21, 22, 23, 24, 30, 31, 32, 33], [29, 34, 0, 1, 2, 3, 4, 5, 6, 7, 8, 9, 10, 11, 12, 13, 14, 15, 16, 17, 18, 19, 20, 21, 22, 23, 24, 25, 26, 27, 28, 29, 30, 31, 32, 33, 34]] [(xC 17 (.fad 0 (.t 4)), ⟨[4], none, false, false⟩),
 (xC 18 (.ld false 1 (.t 17)), ⟨[4], none, false, false⟩),
 (xC 19 (.fad 0 (.t 7)), ⟨[7], none, false, false⟩),
 (xC 20 (.ld false 1 (.t 19)), ⟨[7], none, false, false⟩),
 xU 21 (.bin .sub (.t 18) (.t 20)),
 (xC 22 (.fad 1 (.t 4)), ⟨[4], none, false, false⟩),
 (xC 23 (.ld false 1 (.t 22)), ⟨[4], none, false, false⟩),
 (xC 24 (.fad 1 (.t 7)), ⟨[7], none, false, false⟩),
 (xC 25 (.ld false 1 (.t 24)), ⟨[7], none, false, false⟩),
 xU 26 (.bin .sub (.t 23) (.t 25)),
 (xC 27 (.fad 0 (.t 5)), ⟨[5], none, false, false⟩),
 (xC 28 (.ld false 1 (.t 27)), ⟨[5], none, false, false⟩),
 (xC 29 (.fad 0 (.t 7)), ⟨[7], none, false, false⟩),
 (xC 30 (.ld false 1 (.t 29)), ⟨[7], none, false, false⟩),
 xU 31 (.bin .sub (.t 28) (.t 30)),
 (xC 32 (.fad 1 (.t 5)), ⟨[5], none, false, false⟩),
 (xC 33 (.ld false 1 (.t 32)), ⟨[5], none, false, false⟩),
 (xC 34 (.fad 1 (.t 7)), ⟨[7], none, false, false⟩),
 (xC 35 (.ld false 1 (.t 34)), ⟨[7], none, false, false⟩),
 xU 36 (.bin .sub (.t 33) (.t 35)),
 (xC 37 (.fad 0 (.t 6)), ⟨[6], none, false, false⟩),
 (xC 38 (.ld false 1 (.t 37)), ⟨[6], none, false, false⟩),
 (xC 39 (.fad 0 (.t 7)), ⟨[7], none, false, false⟩),
 (xC 40 (.ld false 1 (.t 39)), ⟨[7], none, false, false⟩),
 xU 41 (.bin .sub (.t 38) (.t 40)),
 (xC 42 (.fad 1 (.t 6)), ⟨[6], none, false, false⟩),
 (xC 43 (.ld false 1 (.t 42)), ⟨[6], none, false, false⟩),
 (xC 44 (.fad 1 (.t 7)), ⟨[7], none, false, false⟩),
 (xC 45 (.ld false 1 (.t 44)), ⟨[7], none, false, false⟩),
 xU 46 (.bin .sub (.t 43) (.t 45)),
 xU 9 (.mv (.t 21)),
 xU 10 (.mv (.t 26)),
 xU 11 (.mv (.t 31)),
 xU 12 (.mv (.t 36)),
 xU 13 (.mv (.t 41)),
 xU 14 (.mv (.t 46))])
 (.seq (.seq (.reg [] [xC 47 (.mv (.t 9)),
 xC 48 (.mv (.t 10)),
 xC 49 (.mv (.t 11)),
 xC 50 (.mv (.t 12)),
 xC 51 (.mv (.t 13)),
 xC 52 (.mv (.t 14)),
 xC 53 (.bsl 6 1 [(zN 0)] [(0, (1, (.t 47))), (1, (1, (.t 48))), (2, (1, (.t 49))), (3, (1, (.t 50))), (4, (1, (.t 51))), (5, (1, (.t 52)))]),
 xC 54 (.call 130 [(.t 53)])])
 (.cond (.t 54) (.seq (.reg [] [xC 55 (.mv (.t 9)),
 xC 56 (.mv (.t 10)),
 xC 57 (.mv (.t 11)),
 xC 58 (.mv (.t 12)),
 xC 59 (.mv (.t 13)),
 xC 60 (.mv (.t 14)),
 xC 61 (.call 131 [(.t 55), (.t 56), (.t 57), (.t 58), (.t 59), (.t 60)]),
 xC 8 (.mv (.t 61))])
 .ret) .skip))
 (.seq (.reg [] [xC 15 (.mv (.k (.fn 132 [])))])
 (.seq (.reg [] [xC 16 (.mv (.k (.fn 133 [])))])
 (.seq (.reg [] [xC 62 (.mv (.t 15)),
 xC 63 (.mv (.t 9)),
 xC 64 (.mv (.t 10)),
 xC 65 (.callv (.t 62) [(.t 63), (.t 64)]),
 xC 66 (.mv (.t 16)),
 xC 67 (.mv (.t 11)),
 xC 68 (.mv (.t 12)),
 xC 69 (.mv (.t 13)),
 xC 70 (.mv (.t 14)),
 xC 71 (.callv (.t 66) [(.t 67), (.t 68), (.t 69), (.t 70)]),
 xC 72 (.call 56 [(.t 65), (.t 71)]),
 xC 73 (.mv (.t 15)),
 xC 74 (.mv (.t 11)),
 xC 75 (.mv (.t 12)),
 xC 76 (.callv (.t 73) [(.t 74), (.t 75)]),
 xC 77 (.mv (.t 16)),
 xC 78 (.mv (.t 13)),
 xC 79 (.mv (.t 14)),
 xC 80 (.mv (.t 9)),
 xC 81 (.mv (.t 10)),
 xC 82 (.callv (.t 77) [(.t 78), (.t 79), (.t 80), (.t 81)]),
 xC 83 (.call 56 [(.t 76), (.t 82)]),
 xC 84 (.mv (.t 15)),
 xC 85 (.mv (.t 13)),
 xC 86 (.mv (.t 14)),
 xC 87 (.callv (.t 84) [(.t 85), (.t 86)]),
 xC 88 (.mv (.t 16)),
 xC 89 (.mv (.t 9)),
 xC 90 (.mv (.t 10)),
 xC 91 (.mv (.t 11)),
 xC 92 (.mv (.t 12)),
 xC 93 (.callv (.t 88) [(.t 89), (.t 90), (.t 91), (.t 92)]),
 xC 94 (.call 56 [(.t 87), (.t 93)]),
 xC 95 (.bsl 3 2 [bF, sZ] [(0, (2, (.t 72))), (2, (2, (.t 83))), (4, (2, (.t 94)))]),
 xC 96 (.call 135 [(.t 95)]),
 xC 97 (.call 66 [(.t 96)]),
 xC 8 (.mv (.t 97))])
 .ret)))))), [(.tmp 8)], [], true⟩
theorem hb91 : hasBody Tryz.prog 91 = true := by kernel_rfl
theorem fk91 : FEOK Tryz.prog 91 fe91 := ⟨by kernel_rfl, by kernel_rfl, hb91⟩
/-- slices.pdqsortOrdered[int] -/
def fe92 : FE := ⟨134, (.seq (.reg [] [xC 8 (.mv (.k bT))])
 (.seq (.reg [] [xC 9 (.mv (.k bT))])
 (.block 0 (.loop (.block 1 (.seq (.reg [] [xC 19 (.mv (.t 2)),
 xC 20 (.mv (.t 1)),
 xC 21 (.bin .sub (.t 19) (.t 20)),
 xC 10 (.mv (.t 21))])
 (.seq (.seq (.reg [] [xC 22 (.mv (.t 10)),
 xC 23 (.bin .leq (.t 22) (kN 12))])
 (.cond (.t 23) (.seq (.reg [] [xC 24 (.mv (.t 0)),
 xC 25 (.mv (.t 1)),
 xC 26 (.mv (.t 2)),
 xC 27 (.call 136 [(.t 24), (.t 25), (.t 26)])])
 .ret) .skip))
 (.seq (.seq (.reg [] [xC 28 (.mv (.t 3)),
 xC 29 (.bin .eql (.t 28) kZ)])
 (.cond (.t 29) (.seq (.reg [] [xC 30 (.mv (.t 0)),
 xC 31 (.mv (.t 1)),
 xC 32 (.mv (.t 2)),
 xC 33 (.call 137 [(.t 30), (.t 31), (.t 32)])])
 .ret) .skip))
 (.seq (.seq (.reg [] [xC 34 (.mv (.t 8)),
 xC 35 (.un .not (.t 34))])
 (.cond (.t 35) (.seq (.reg [] [xC 36 (.mv (.t 0)),
 xC 37 (.mv (.t 1)),
 xC 38 (.mv (.t 2)),
 xC 39 (.call 138 [(.t 36), (.t 37), (.t 38)])])
 (.reg [] [xC 40 (.mv (.t 3)),
 xC 41 (.bin .sub (.t 40) (kN 1)),
 xC 3 (.mv (.t 41))])) .skip))
 (.seq (.reg [] [xC 43 (.mv (.t 0)),
 xC 44 (.mv (.t 1)),
 xC 45 (.mv (.t 2)),
 xC 46 (.call 139 [(.t 43), (.t 44), (.t 45)]),
 xC 42 (.mv (.t 46)),
 xC 47 (.ext (.t 42) 0),
 xC 48 (.ext (.t 42) 1),
 xC 11 (.mv (.t 47)),
 xC 12 (.mv (.t 48))])
 (.seq (.seq (.reg [] [xC 49 (.mv (.t 12)),
 xC 50 (.bin .eql (.t 49) (kN 2))])
 (.cond (.t 50) (.seq (.reg [] [xC 51 (.mv (.t 0)),
 xC 52 (.mv (.t 1)),
 xC 53 (.mv (.t 2)),
 xC 54 (.call 140 [(.t 51), (.t 52), (.t 53)])])
 (.seq (.reg [] [xC 55 (.mv (.t 2)),
 xC 56 (.bin .sub (.t 55) (kN 1)),
 xC 57 (.mv (.t 11)),
 xC 58 (.mv (.t 1)),
 xC 59 (.bin .sub (.t 57) (.t 58)),
 xC 60 (.bin .sub (.t 56) (.t 59)),
 xC 11 (.mv (.t 60))])
 (.reg [] [xC 12 (.mv (kN 1))]))) .skip))
 (.seq (.seq (.reg [] [xC 61 (.mv (.t 8)),
 xC 62 (.mv (.t 61)),
 ⟨(some 63), (some (62, true)), (.mv (.t 9))⟩,
 xC 64 (.pick (.t 62) (.t 63) (.k bF)),
 xC 65 (.mv (.t 64)),
 ⟨(some 66), (some (65, true)), (.mv (.t 12))⟩,
 ⟨(some 67), (some (65, true)), (.bin .eql (.t 66) (kN 1))⟩,
 xC 68 (.pick (.t 65) (.t 67) (.k bF))])
 (.cond (.t 68) (.seq (.reg [] [xC 69 (.mv (.t 0)),
 xC 70 (.mv (.t 1)),
 xC 71 (.mv (.t 2)),
 xC 72 (.call 141 [(.t 69), (.t 70), (.t 71)])])
 (.cond (.t 72) .ret .skip)) .skip))
 (.seq (.seq (.regd [] [[], [0], [1], [2], [2], [4, 2], [3, 5, 2], [6, 2], [2], [2], [8, 9, 2], [10, 2], [7, 11, 2, 2], [12, 2], [2, 13]] [xU 73 (.mv (.t 1)),
 xU 74 (.bin .gtr (.t 73) kZ),
 xU 75 (.mv (.t 74)),
 (⟨(some 76), (some (75, true)), (.mv (.t 0))⟩, ⟨[], none, false, false⟩),
 (⟨(some 77), (some (75, true)), (.mv (.t 1))⟩, ⟨[], none, false, false⟩),
 (⟨(some 78), (some (75, true)), (.bin .sub (.t 77) (kN 1))⟩, ⟨[], none, false, false⟩),
 (⟨(some 79), (some (75, true)), (.iad 1 (.t 76) (.t 78))⟩, ⟨[], none, false, false⟩),
 (⟨(some 80), (some (75, true)), (.ld false 1 (.t 79))⟩, ⟨[], none, true, false⟩),
 (⟨(some 81), (some (75, true)), (.mv (.t 0))⟩, ⟨[], none, false, false⟩),
 (⟨(some 82), (some (75, true)), (.mv (.t 11))⟩, ⟨[], none, false, false⟩),
 (⟨(some 83), (some (75, true)), (.iad 1 (.t 81) (.t 82))⟩, ⟨[], none, false, false⟩),
 (⟨(some 84), (some (75, true)), (.ld false 1 (.t 83))⟩, ⟨[], none, true, false⟩),
 (⟨(some 85), (some (75, true)), (.call 142 [(.t 80), (.t 84)])⟩, ⟨[], none, true, false⟩),
 (⟨(some 86), (some (75, true)), (.un .not (.t 85))⟩, ⟨[], none, false, false⟩),
 xU 87 (.pick (.t 75) (.t 86) (.k bF))])
 (.cond (.t 87) (.seq (.reg [] [xC 88 (.mv (.t 0)),
 xC 89 (.mv (.t 1)),
 xC 90 (.mv (.t 2)),
 xC 91 (.mv (.t 11)),
 xC 92 (.call 143 [(.t 88), (.t 89), (.t 90), (.t 91)]),
 xC 13 (.mv (.t 92))])
 (.seq (.reg [] [xC 93 (.mv (.t 13)),
 xC 1 (.mv (.t 93))])
 (.exit 1))) .skip))
 (.seq (.reg [] [xC 95 (.mv (.t 0)),
 xC 96 (.mv (.t 1)),
 xC 97 (.mv (.t 2)),
 xC 98 (.mv (.t 11)),
 xC 99 (.call 144 [(.t 95), (.t 96), (.t 97), (.t 98)]),
 xC 94 (.mv (.t 99)),
 xC 100 (.ext (.t 94) 0),
 xC 101 (.ext (.t 94) 1),
 xC 14 (.mv (.t 100)),
 xC 15 (.mv (.t 101))])
 (.seq (.reg [] [xC 102 (.mv (.t 15)),
 xC 9 (.mv (.t 102))])
 (.seq (.reg [] [xC 103 (.mv (.t 14)),
 xC 104 (.mv (.t 1)),
 xC 105 (.bin .sub (.t 103) (.t 104)),
 xC 106 (.mv (.t 2)),
 xC 107 (.mv (.t 14)),
 xC 108 (.bin .sub (.t 106) (.t 107)),
 xC 16 (.mv (.t 105)),
 xC 17 (.mv (.t 108))])
 (.seq (.reg [] [xC 109 (.mv (.t 10)),
 xC 110 (.bin .quo (.t 109) (kN 8)),
 xC 18 (.mv (.t 110))])
 (.seq (.reg [] [xC 111 (.mv (.t 16)),
 xC 112 (.mv (.t 17)),
 xC 113 (.bin .lss (.t 111) (.t 112))])
 (.cond (.t 113) (.seq (.reg [] [xC 114 (.mv (.t 16)),
 xC 115 (.mv (.t 18)),
 xC 116 (.bin .geq (.t 114) (.t 115)),
 xC 8 (.mv (.t 116))])
 (.seq (.reg [] [xC 117 (.mv (.t 0)),
 xC 118 (.mv (.t 1)),
 xC 119 (.mv (.t 14)),
 xC 120 (.mv (.t 3)),
 xC 121 (.call 92 [(.t 117), (.t 118), (.t 119), (.t 120)])])
 (.reg [] [xC 122 (.mv (.t 14)),
 xC 123 (.bin .add (.t 122) (kN 1)),
 xC 1 (.mv (.t 123))]))) (.seq (.reg [] [xC 124 (.mv (.t 17)),
 xC 125 (.mv (.t 18)),
 xC 126 (.bin .geq (.t 124) (.t 125)),
 xC 8 (.mv (.t 126))])
 (.seq (.reg [] [xC 127 (.mv (.t 0)),
 xC 128 (.mv (.t 14)),
 xC 129 (.bin .add (.t 128) (kN 1)),
 xC 130 (.mv (.t 2)),
 xC 131 (.mv (.t 3)),
 xC 132 (.call 92 [(.t 127), (.t 129), (.t 130), (.t 131)])])
 (.reg [] [xC 133 (.mv (.t 14)),
 xC 2 (.mv (.t 133))])))))))))))))))))))))), [], [], false⟩
theorem hb92 : hasBody Tryz.prog 92 = true := by kernel_rfl
theorem fk92 : FEOK Tryz.prog 92 fe92 := ⟨by kernel_rfl, by kernel_rfl, hb92⟩
/-- math/bits.Len -/
def fe93 : FE := ⟨8, (.seq (.reg [] [xC 2 (.mv kZ)])
 (.seq (.cond (.k bF) (.seq (.reg [] [xC 3 (.mv (.t 0)),
 xC 4 (.cv .u32 (.t 3)),
 xC 5 (.call 145 [(.t 4)]),
 xC 2 (.mv (.t 5))])
 .ret) .skip)
 (.seq (.reg [] [xC 6 (.mv (.t 0)),
 xC 7 (.call 146 [(.t 6)]),
 xC 2 (.mv (.t 7))])
 .ret))), [(.tmp 2)], [], true⟩
theorem hb93 : hasBody Tryz.prog 93 = true := by kernel_rfl
theorem fk93 : FEOK Tryz.prog 93 fe93 := ⟨by kernel_rfl, by kernel_rfl, hb93⟩
/-- isohyet/wide.Num -/
def fe94 : FE := ⟨20, (.seq (.reg [1, 2] [xC 1 (.box (.t 0)),
 xC 2 (.new [bF, sZ])])
 (.seq (.seq (.reg [] [xC 4 (.ld true 2 (.t 1)),
 xC 5 (.call 147 [(.t 4)])])
 (.cond (.t 5) (.seq (.reg [3] [xC 6 (.ld true 2 (.t 1)),
 xC 7 (.call 148 [(.t 6)]),
 xC 3 (.new [(.lit (.int .u64 0)), (.lit (.int .u64 0))]),
 ⟨none, none, (.st 2 (.t 3) (.t 7))⟩])
 (.seq (.reg [] [xC 8 (.fad 1 (.t 3)),
 xC 9 (.ld false 1 (.t 8)),
 xC 10 (.fad 0 (.t 3)),
 xC 11 (.ld false 1 (.t 10)),
 xC 12 (.bsl 2 1 [(.lit (.int .u64 0))] [(0, (1, (.t 9))), (1, (1, (.t 11)))]),
 xC 13 (.call 96 [(.k bT), (.t 12)]),
 ⟨none, none, (.st 2 (.t 2) (.t 13))⟩])
 .ret)) .skip))
 (.seq (.reg [] [xC 14 (.fad 1 (.t 1)),
 xC 15 (.ld false 1 (.t 14)),
 xC 16 (.fad 0 (.t 1)),
 xC 17 (.ld false 1 (.t 16)),
 xC 18 (.bsl 2 1 [(.lit (.int .u64 0))] [(0, (1, (.t 15))), (1, (1, (.t 17)))]),
 xC 19 (.call 96 [(.k bF), (.t 18)]),
 ⟨none, none, (.st 2 (.t 2) (.t 19))⟩])
 .ret))), [(.cell 2 true 2)], [], true⟩
theorem hb94 : hasBody Tryz.prog 94 = true := by kernel_rfl
theorem fk94 : FEOK Tryz.prog 94 fe94 := ⟨by kernel_rfl, by kernel_rfl, hb94⟩
/-- isohyet/wide.Mul -/
def fe95 : FE := ⟨29, (.seq (.reg [4] [xC 4 (.new [(.lit (.int .u64 0)), (.lit (.int .u64 0))])])
 (.seq (.reg [] [xC 9 (.mv (.t 0)),
 xC 10 (.call 149 [(.t 9)]),
 xC 11 (.mv (.t 1)),
 xC 12 (.call 149 [(.t 11)]),
 xC 13 (.call 104 [(.t 10), (.t 12)]),
 xC 8 (.mv (.t 13)),
 xC 14 (.ext (.t 8) 0),
 xC 15 (.ext (.t 8) 1),
 xC 5 (.mv (.t 14)),
 xC 6 (.mv (.t 15))])
 (.seq (.seq (.reg [7] [xC 16 (.mv (.t 5)),
 xC 17 (.mv (.t 6)),
 xC 18 (.bld [(.lit (.int .u64 0)), (.lit (.int .u64 0))] [(0, (1, (.t 16))), (1, (1, (.t 17)))]),
 xC 7 (.new [(.lit (.int .u64 0)), (.lit (.int .u64 0))]),
 ⟨none, none, (.st 2 (.t 7) (.t 18))⟩])
 (.seq (.reg [] [xC 19 (.mv (.t 0)),
 xC 20 (.bin .lss (.t 19) kZ),
 xC 21 (.mv (.t 1)),
 xC 22 (.bin .lss (.t 21) kZ),
 xC 23 (.eqb true (.t 20) (.t 22))])
 (.cond (.t 23) (.seq (.reg [] [xC 24 (.ld true 2 (.t 7)),
 xC 25 (.call 148 [(.t 24)]),
 ⟨none, none, (.st 2 (.t 4) (.t 25))⟩])
 .ret) .skip)))
 (.seq (.reg [] [xC 26 (.mv (.t 5)),
 xC 27 (.mv (.t 6)),
 xC 28 (.bld [(.lit (.int .u64 0)), (.lit (.int .u64 0))] [(0, (1, (.t 26))), (1, (1, (.t 27)))]),
 ⟨none, none, (.st 2 (.t 4) (.t 28))⟩])
 .ret)))), [(.cell 4 true 2)], [], true⟩
theorem hb95 : hasBody Tryz.prog 95 = true := by kernel_rfl
theorem fk95 : FEOK Tryz.prog 95 fe95 := ⟨by kernel_rfl, by kernel_rfl, hb95⟩
/-- isohyet/num.Make -/
def fe96 : FE := ⟨15, (.seq (.reg [4] [xC 4 (.new [bF, sZ])])
 (.seq (.reg [] [xC 5 (.mv (.t 1)),
 xC 6 (.call 101 [(.t 5), (.k sZ)]),
 xC 1 (.mv (.t 6))])
 (.seq (.reg [] [xC 7 (.mv (.t 0)),
 xC 8 (.mv (.t 7)),
 ⟨(some 9), (some (8, true)), (.mv (.t 1))⟩,
 ⟨(some 10), (some (8, true)), (.len (.t 9))⟩,
 ⟨(some 11), (some (8, true)), (.bin .gtr (.t 10) kZ)⟩,
 xC 12 (.pick (.t 8) (.t 11) (.k bF)),
 xC 13 (.mv (.t 1)),
 xC 14 (.bld [bF, sZ] [(0, (1, (.t 12))), (1, (1, (.t 13)))]),
 ⟨none, none, (.st 2 (.t 4) (.t 14))⟩])
 .ret))), [(.cell 4 true 2)], [], true⟩
theorem hb96 : hasBody Tryz.prog 96 = true := by kernel_rfl
theorem fk96 : FEOK Tryz.prog 96 fe96 := ⟨by kernel_rfl, by kernel_rfl, hb96⟩
/-- isohyet/pred.area2 -/
def fe97 : FE := ⟨28, (.seq (.reg [3, 4, 5, 6] [xC 3 (.box (.t 0)),
 xC 4 (.box (.t 1)),
 xC 5 (.box (.t 2)),
 xC 6 (.new [(.lit (.int .u64 0)), (.lit (.int .u64 0))])])
 (.seq (.reg [] [xC 7 (.fad 0 (.t 4)),
 xC 8 (.ld false 1 (.t 7)),
 xC 9 (.fad 0 (.t 3)),
 xC 10 (.ld false 1 (.t 9)),
 xC 11 (.bin .sub (.t 8) (.t 10)),
 xC 12 (.fad 1 (.t 4)),
 xC 13 (.ld false 1 (.t 12)),
 xC 14 (.fad 1 (.t 3)),
 xC 15 (.ld false 1 (.t 14)),
 xC 16 (.bin .sub (.t 13) (.t 15)),
 xC 17 (.fad 0 (.t 5)),
 xC 18 (.ld false 1 (.t 17)),
 xC 19 (.fad 0 (.t 3)),
 xC 20 (.ld false 1 (.t 19)),
 xC 21 (.bin .sub (.t 18) (.t 20)),
 xC 22 (.fad 1 (.t 5)),
 xC 23 (.ld false 1 (.t 22)),
 xC 24 (.fad 1 (.t 3)),
 xC 25 (.ld false 1 (.t 24)),
 xC 26 (.bin .sub (.t 23) (.t 25)),
 xC 27 (.call 134 [(.t 11), (.t 16), (.t 21), (.t 26)]),
 ⟨none, none, (.st 2 (.t 6) (.t 27))⟩])
 .ret)), [(.cell 6 true 2)], [], true⟩
theorem hb97 : hasBody Tryz.prog 97 = true := by kernel_rfl
theorem fk97 : FEOK Tryz.prog 97 fe97 := ⟨by kernel_rfl, by kernel_rfl, hb97⟩
/-- isohyet/num.Sub -/
def fe98 : FE := ⟨9, (.seq (.reg [2, 3, 4] [xC 2 (.box (.t 0)),
 xC 3 (.box (.t 1)),
 xC 4 (.new [bF, sZ])])
 (.seq (.regd [] [[], [], [1], [0, 2, 2], [3, 3, 0, 1, 2, 3]] [(xC 5 (.ld true 2 (.t 2)), ⟨[2], none, false, false⟩),
 (xC 6 (.ld true 2 (.t 3)), ⟨[3], none, false, false⟩),
 xV 7 (.call 61 [(.t 6)]),
 xV 8 (.call 64 [(.t 5), (.t 7)]),
 (⟨none, none, (.st 2 (.t 4) (.t 8))⟩, ⟨[4], some 4, false, false⟩)])
 .ret)), [(.cell 4 true 2)], [], true⟩
theorem hb98 : hasBody Tryz.prog 98 = true := by kernel_rfl
theorem fk98 : FEOK Tryz.prog 98 fe98 := ⟨by kernel_rfl, by kernel_rfl, hb98⟩
/-- isohyet/frac.lone -/
def fe99 : FE := ⟨12, (.seq (.reg [] [xC 2 (.mv (.k bF))])
 (.seq (.reg [] [xC 3 (.mv (.t 0)),
 xC 4 (.len (.t 3)),
 xC 5 (.bin .eql (.t 4) (kN 1)),
 xC 6 (.mv (.t 5)),
 ⟨(some 7), (some (6, true)), (.mv (.t 0))⟩,
 ⟨(some 8), (some (6, true)), (.iad 1 (.t 7) kZ)⟩,
 ⟨(some 9), (some (6, true)), (.ld false 1 (.t 8))⟩,
 ⟨(some 10), (some (6, true)), (.bin .eql (.t 9) (.k (.lit (.int .u64 1))))⟩,
 xC 11 (.pick (.t 6) (.t 10) (.k bF)),
 xC 2 (.mv (.t 11))])
 .ret)), [(.tmp 2)], [], true⟩
theorem hb99 : hasBody Tryz.prog 99 = true := by kernel_rfl
theorem fk99 : FEOK Tryz.prog 99 fe99 := ⟨by kernel_rfl, by kernel_rfl, hb99⟩
/-- isohyet/mag.Gcd -/
def fe100 : FE := ⟨65, (.seq (.reg [] [xC 4 (.mv (.k sZ))])
 (.seq (.reg [] [xC 9 (.mv (.t 0)),
 xC 10 (.call 106 [(.t 9)]),
 xC 11 (.mv (.t 1)),
 xC 12 (.call 106 [(.t 11)]),
 xC 0 (.mv (.t 10)),
 xC 1 (.mv (.t 12))])
 (.seq (.block 0 (.seq (.reg [] [xC 14 (.mv (.t 0)),
 xC 15 (.len (.t 14)),
 xC 16 (.bin .eql (.t 15) kZ),
 xC 13 (.mv (.t 16))])
 (.cond (.t 13) (.seq (.reg [] [xC 17 (.mv (.t 1)),
 xC 18 (.app 1 8 (.k sZ) (.t 17)),
 xC 4 (.mv (.t 18))])
 .ret) (.seq (.reg [] [xC 20 (.mv (.t 1)),
 xC 21 (.len (.t 20)),
 xC 22 (.bin .eql (.t 21) kZ),
 xC 19 (.mv (.t 22))])
 (.cond (.t 19) (.seq (.reg [] [xC 23 (.mv (.t 0)),
 xC 24 (.app 1 8 (.k sZ) (.t 23)),
 xC 4 (.mv (.t 24))])
 .ret) .skip)))))
 (.seq (.block 1 (.loop (.seq (.seq (.reg [] [xC 25 (.mv (.t 1)),
 xC 26 (.len (.t 25)),
 xC 27 (.bin .gtr (.t 26) (kN 1)),
 xC 28 (.mv (.t 27)),
 ⟨(some 29), (some (28, false)), (.mv (.t 1))⟩,
 ⟨(some 30), (some (28, false)), (.len (.t 29))⟩,
 ⟨(some 31), (some (28, false)), (.bin .eql (.t 30) (kN 1))⟩,
 ⟨(some 32), (some (28, false)), (.mv (.t 31))⟩,
 ⟨(some 33), (some (32, true)), (.mv (.t 0))⟩,
 ⟨(some 34), (some (32, true)), (.len (.t 33))⟩,
 ⟨(some 35), (some (32, true)), (.bin .gtr (.t 34) (kN 1))⟩,
 ⟨(some 36), (some (28, false)), (.pick (.t 32) (.t 35) (.k bF))⟩,
 xC 37 (.pick (.t 28) (.k bT) (.t 36))])
 (.cond (.t 37) .skip (.exit 1)))
 (.block 2 (.seq (.reg [] [xC 39 (.mv (.t 0)),
 xC 40 (.mv (.t 1)),
 xC 41 (.call 102 [(.t 39), (.t 40)]),
 xC 38 (.mv (.t 41)),
 xC 42 (.ext (.t 38) 0),
 xC 43 (.ext (.t 38) 1),
 xC 5 (.mv (.t 42)),
 xC 6 (.mv (.t 43))])
 (.reg [] [xC 44 (.mv (.t 1)),
 xC 45 (.mv (.t 6)),
 xC 0 (.mv (.t 44)),
 xC 1 (.mv (.t 45))]))))))
 (.seq (.seq (.reg [] [xC 46 (.mv (.t 1)),
 xC 47 (.len (.t 46)),
 xC 48 (.bin .eql (.t 47) kZ)])
 (.cond (.t 48) (.seq (.reg [] [xC 49 (.mv (.t 0)),
 xC 50 (.app 1 8 (.k sZ) (.t 49)),
 xC 4 (.mv (.t 50))])
 .ret) .skip))
 (.seq (.regd [] [[], [0], [1], [], [3], [4], [2, 0, 1, 2], [5, 6, 0, 1, 2, 3, 4, 5, 6]] [xU 51 (.mv (.t 0)),
 xU 52 (.iad 1 (.t 51) kZ),
 xV 53 (.ld false 1 (.t 52)),
 xU 54 (.mv (.t 1)),
 xU 55 (.iad 1 (.t 54) kZ),
 xV 56 (.ld false 1 (.t 55)),
 xU 7 (.mv (.t 53)),
 xU 8 (.mv (.t 56))])
 (.seq (.block 3 (.loop (.seq (.seq (.reg [] [xC 57 (.mv (.t 8)),
 xC 58 (.bin .gtr (.t 57) (.k (.lit (.int .u64 0))))])
 (.cond (.t 58) .skip (.exit 3)))
 (.block 4 (.regd [] [[], [], [], [1, 2], [0, 0, 1], [3, 4, 0, 1, 2, 3, 4]] [xU 59 (.mv (.t 8)),
 xU 60 (.mv (.t 7)),
 xU 61 (.mv (.t 8)),
 xU 62 (.bin .rem (.t 60) (.t 61)),
 xU 7 (.mv (.t 59)),
 xU 8 (.mv (.t 62))])))))
 (.seq (.reg [] [xC 63 (.mv (.t 7)),
 xC 64 (.call 82 [(.t 63)]),
 xC 4 (.mv (.t 64))])
 .ret)))))))), [(.tmp 4)], [], true⟩
theorem hb100 : hasBody Tryz.prog 100 = true := by kernel_rfl
theorem fk100 : FEOK Tryz.prog 100 fe100 := ⟨by kernel_rfl, by kernel_rfl, hb100⟩
/-- isohyet/mag.Add -/
def fe101 : FE := ⟨54, (.seq (.reg [] [xC 4 (.mv (.k sZ))])
 (.seq (.seq (.reg [] [xC 10 (.mv (.t 0)),
 xC 11 (.len (.t 10)),
 xC 12 (.mv (.t 1)),
 xC 13 (.len (.t 12)),
 xC 14 (.bin .lss (.t 11) (.t 13))])
 (.cond (.t 14) (.reg [] [xC 15 (.mv (.t 1)),
 xC 16 (.mv (.t 0)),
 xC 0 (.mv (.t 15)),
 xC 1 (.mv (.t 16))]) .skip))
 (.seq (.reg [] [xC 17 (.mv (.t 0)),
 xC 18 (.len (.t 17)),
 xC 19 (.bin .add (.t 18) (kN 1)),
 xC 20 (.mks 1 8 [(.lit (.int .u64 0))] (.t 19) (.t 19)),
 xC 5 (.mv (.t 20))])
 (.seq (.reg [] [xC 6 (.mv (.k (.lit (.int .u64 0))))])
 (.seq (.seq (.reg [] [xC 21 (.mv (.t 0)),
 xC 22 (.len (.t 21)),
 xC 23 (.mv kZ)])
 (.block 0 (.loop (.seq (.reg [] [xC 24 (.bin .lss (.t 23) (.t 22))])
 (.seq (.cond (.t 24) .skip (.exit 0))
 (.seq (.block 1 (.seq (.reg [] [xC 25 (.mv (.t 23)),
 xC 26 (.iad 1 (.t 21) (.t 23)),
 xC 27 (.ld false 1 (.t 26)),
 xC 7 (.mv (.t 25)),
 xC 8 (.mv (.t 27))])
 (.seq (.reg [] [xC 9 (.mv (.k (.lit (.int .u64 0))))])
 (.seq (.seq (.reg [] [xC 28 (.mv (.t 7)),
 xC 29 (.mv (.t 1)),
 xC 30 (.len (.t 29)),
 xC 31 (.bin .lss (.t 28) (.t 30))])
 (.cond (.t 31) (.reg [] [xC 32 (.mv (.t 1)),
 xC 33 (.mv (.t 7)),
 xC 34 (.iad 1 (.t 32) (.t 33)),
 xC 35 (.ld false 1 (.t 34)),
 xC 9 (.mv (.t 35))]) .skip))
 (.reg [] [xC 37 (.mv (.t 5)),
 xC 38 (.mv (.t 7)),
 xC 39 (.mv (.t 8)),
 xC 40 (.mv (.t 9)),
 xC 41 (.mv (.t 6)),
 xC 42 (.adc (.t 39) (.t 40) (.t 41)),
 xC 36 (.mv (.t 42)),
 xC 43 (.ext (.t 36) 0),
 xC 44 (.ext (.t 36) 1),
 xC 45 (.iad 1 (.t 37) (.t 38)),
 ⟨none, none, (.st 1 (.t 45) (.t 43))⟩,
 xC 6 (.mv (.t 44))])))))
 (.reg [] [xC 46 (.bin .add (.t 23) (kN 1)),
 xC 23 (.mv (.t 46))])))))))
 (.seq (.reg [] [xC 47 (.mv (.t 5)),
 xC 48 (.mv (.t 0)),
 xC 49 (.len (.t 48)),
 xC 50 (.mv (.t 6)),
 xC 51 (.iad 1 (.t 47) (.t 49)),
 ⟨none, none, (.st 1 (.t 51) (.t 50))⟩])
 (.seq (.reg [] [xC 52 (.mv (.t 5)),
 xC 53 (.call 106 [(.t 52)]),
 xC 4 (.mv (.t 53))])
 .ret))))))), [(.tmp 4)], [], true⟩
theorem hb101 : hasBody Tryz.prog 101 = true := by kernel_rfl
theorem fk101 : FEOK Tryz.prog 101 fe101 := ⟨by kernel_rfl, by kernel_rfl, hb101⟩
/-- isohyet/mag.Div -/
def fe102 : FE := ⟨115, (.seq (.reg [] [xC 4 (.mv (.k sZ)),
 xC 5 (.mv (.k sZ))])
 (.seq (.reg [] [xC 15 (.mv (.t 0)),
 xC 16 (.call 106 [(.t 15)]),
 xC 17 (.mv (.t 1)),
 xC 18 (.call 106 [(.t 17)]),
 xC 0 (.mv (.t 16)),
 xC 1 (.mv (.t 18))])
 (.seq (.block 0 (.seq (.reg [] [xC 20 (.mv (.t 1)),
 xC 21 (.len (.t 20)),
 xC 22 (.bin .eql (.t 21) kZ),
 xC 23 (.mv (.t 22)),
 ⟨(some 24), (some (23, false)), (.mv (.t 0))⟩,
 ⟨(some 25), (some (23, false)), (.mv (.t 1))⟩,
 ⟨(some 26), (some (23, false)), (.call 107 [(.t 24), (.t 25)])⟩,
 ⟨(some 27), (some (23, false)), (.bin .lss (.t 26) kZ)⟩,
 xC 28 (.pick (.t 23) (.k bT) (.t 27)),
 xC 19 (.mv (.t 28))])
 (.cond (.t 19) (.seq (.reg [] [xC 29 (.mv (.t 0)),
 xC 30 (.app 1 8 (.k sZ) (.t 29)),
 xC 4 (.mv (.k sZ)),
 xC 5 (.mv (.t 30))])
 .ret) (.seq (.reg [] [xC 32 (.mv (.t 1)),
 xC 33 (.len (.t 32)),
 xC 34 (.bin .eql (.t 33) (kN 1)),
 xC 31 (.mv (.t 34))])
 (.cond (.t 31) (.seq (.reg [] [xC 36 (.mv (.t 0)),
 xC 37 (.mv (.t 1)),
 xC 38 (.iad 1 (.t 37) kZ),
 xC 39 (.ld false 1 (.t 38)),
 xC 40 (.call 150 [(.t 36), (.t 39)]),
 xC 35 (.mv (.t 40)),
 xC 41 (.ext (.t 35) 0),
 xC 42 (.ext (.t 35) 1),
 xC 6 (.mv (.t 41)),
 xC 7 (.mv (.t 42))])
 (.seq (.reg [] [xC 43 (.mv (.t 6)),
 xC 44 (.mv (.t 7)),
 xC 45 (.call 82 [(.t 44)]),
 xC 4 (.mv (.t 43)),
 xC 5 (.mv (.t 45))])
 .ret)) .skip)))))
 (.seq (.reg [] [xC 46 (.mv (.t 1)),
 xC 47 (.len (.t 46)),
 xC 48 (.bin .mul (kN 64) (.t 47)),
 xC 49 (.mv (.t 1)),
 xC 50 (.call 103 [(.t 49)]),
 xC 51 (.bin .sub (.t 48) (.t 50)),
 xC 8 (.mv (.t 51))])
 (.seq (.reg [] [xC 52 (.mv (.t 1)),
 xC 53 (.mv (.t 8)),
 xC 54 (.call 151 [(.t 52), (.t 53)]),
 xC 9 (.mv (.t 54))])
 (.seq (.reg [] [xC 55 (.mv (.t 0)),
 xC 56 (.len (.t 55)),
 xC 57 (.bin .add (.t 56) (kN 1)),
 xC 58 (.mks 1 8 [(.lit (.int .u64 0))] (.t 57) (.t 57)),
 xC 10 (.mv (.t 58))])
 (.seq (.reg [] [xC 59 (.mv (.t 10)),
 xC 60 (.mv (.t 0)),
 xC 61 (.mv (.t 8)),
 xC 62 (.call 151 [(.t 60), (.t 61)]),
 xC 63 (.cpy 1 (.t 59) (.t 62))])
 (.seq (.reg [] [xC 64 (.mv (.t 9)),
 xC 65 (.len (.t 64)),
 xC 11 (.mv (.t 65))])
 (.seq (.reg [] [xC 66 (.mv (.t 10)),
 xC 67 (.len (.t 66)),
 xC 68 (.mv (.t 11)),
 xC 69 (.bin .sub (.t 67) (.t 68)),
 xC 70 (.mks 1 8 [(.lit (.int .u64 0))] (.t 69) (.t 69)),
 xC 12 (.mv (.t 70))])
 (.seq (.seq (.reg [] [xC 71 (.mv (.t 12)),
 xC 72 (.len (.t 71)),
 xC 73 (.bin .sub (.t 72) (kN 1)),
 xC 13 (.mv (.t 73))])
 (.block 1 (.loop (.seq (.seq (.reg [] [xC 74 (.mv (.t 13)),
 xC 75 (.bin .geq (.t 74) kZ)])
 (.cond (.t 75) .skip (.exit 1)))
 (.seq (.block 2 (.seq (.reg [] [xC 78 (.mv (.t 10)),
 xC 79 (.mv (.t 13)),
 xC 80 (.mv (.t 13)),
 xC 81 (.mv (.t 11)),
 xC 82 (.bin .add (.t 80) (.t 81)),
 xC 83 (.bin .add (.t 82) (kN 1)),
 xC 84 (.sls 1 (.t 78) (some (.t 79)) (some (.t 83))),
 xC 14 (.mv (.t 84))])
 (.seq (.reg [] [xC 85 (.mv (.t 12)),
 xC 86 (.mv (.t 13)),
 xC 87 (.mv (.t 14)),
 xC 88 (.mv (.t 9)),
 xC 89 (.call 152 [(.t 87), (.t 88)]),
 xC 90 (.iad 1 (.t 85) (.t 86)),
 ⟨none, none, (.st 1 (.t 90) (.t 89))⟩])
 (.seq (.reg [] [xC 91 (.mv (.t 14)),
 xC 92 (.mv (.t 9)),
 xC 93 (.mv (.t 12)),
 xC 94 (.mv (.t 13)),
 xC 95 (.iad 1 (.t 93) (.t 94)),
 xC 96 (.ld false 1 (.t 95)),
 xC 97 (.call 153 [(.t 91), (.t 92), (.t 96)])])
 (.cond (.t 97) (.seq (.reg [] [xC 98 (.mv (.t 12)),
 xC 99 (.mv (.t 13)),
 xC 100 (.iad 1 (.t 98) (.t 99)),
 xC 101 (.ld false 1 (.t 100)),
 xC 102 (.bin .sub (.t 101) (.k (.lit (.int .u64 1)))),
 xC 103 (.iad 1 (.t 98) (.t 99)),
 ⟨none, none, (.st 1 (.t 103) (.t 102))⟩])
 (.reg [] [xC 104 (.mv (.t 14)),
 xC 105 (.mv (.t 9)),
 xC 106 (.call 154 [(.t 104), (.t 105)])])) .skip)))))
 (.reg [] [xC 76 (.mv (.t 13)),
 xC 77 (.bin .sub (.t 76) (kN 1)),
 xC 13 (.mv (.t 77))]))))))
 (.seq (.regd [] [[], [0], [], [], [2, 3], [4, 1], [], [5, 6, 5], [1, 7, 0, 1], [7, 8, 0, 1, 2, 3, 4, 5, 6, 7, 8]] [xU 107 (.mv (.t 12)),
 xV 108 (.call 106 [(.t 107)]),
 xU 109 (.mv (.t 10)),
 xU 110 (.mv (.t 11)),
 xU 111 (.sls 1 (.t 109) none (some (.t 110))),
 xV 112 (.call 106 [(.t 111)]),
 xU 113 (.mv (.t 8)),
 xV 114 (.call 155 [(.t 112), (.t 113)]),
 xU 4 (.mv (.t 108)),
 xU 5 (.mv (.t 114))])
 .ret))))))))))), [(.tmp 4), (.tmp 5)], [], true⟩
theorem hb102 : hasBody Tryz.prog 102 = true := by kernel_rfl
theorem fk102 : FEOK Tryz.prog 102 fe102 := ⟨by kernel_rfl, by kernel_rfl, hb102⟩
/-- isohyet/mag.Len -/
def fe103 : FE := ⟨20, (.seq (.reg [] [xC 2 (.mv kZ)])
 (.seq (.reg [] [xC 3 (.mv (.t 0)),
 xC 4 (.call 106 [(.t 3)]),
 xC 0 (.mv (.t 4))])
 (.seq (.seq (.reg [] [xC 5 (.mv (.t 0)),
 xC 6 (.len (.t 5)),
 xC 7 (.bin .eql (.t 6) kZ)])
 (.cond (.t 7) (.seq (.reg [] [xC 2 (.mv kZ)])
 .ret) .skip))
 (.seq (.reg [] [xC 8 (.mv (.t 0)),
 xC 9 (.len (.t 8)),
 xC 10 (.bin .sub (.t 9) (kN 1)),
 xC 11 (.bin .mul (kN 64) (.t 10)),
 xC 12 (.mv (.t 0)),
 xC 13 (.mv (.t 0)),
 xC 14 (.len (.t 13)),
 xC 15 (.bin .sub (.t 14) (kN 1)),
 xC 16 (.iad 1 (.t 12) (.t 15)),
 xC 17 (.ld false 1 (.t 16)),
 xC 18 (.call 146 [(.t 17)]),
 xC 19 (.bin .add (.t 11) (.t 18)),
 xC 2 (.mv (.t 19))])
 .ret)))), [(.tmp 2)], [], true⟩
theorem hb103 : hasBody Tryz.prog 103 = true := by kernel_rfl
theorem fk103 : FEOK Tryz.prog 103 fe103 := ⟨by kernel_rfl, by kernel_rfl, hb103⟩
/-- math/bits.Mul64 -/
def fe104 : FE := ⟨51, (.seq (.reg [] [xC 4 (.mv (.k (.lit (.int .u64 0)))),
 xC 5 (.mv (.k (.lit (.int .u64 0))))])
 (.seq (.reg [] [xC 14 (.mv (.t 0)),
 xC 15 (.bin .and (.t 14) (.k (.lit (.int .u64 4294967295)))),
 xC 6 (.mv (.t 15))])
 (.seq (.reg [] [xC 16 (.mv (.t 0)),
 xC 17 (.bin .shr (.t 16) (.k (.lit (.int .u64 32)))),
 xC 7 (.mv (.t 17))])
 (.seq (.reg [] [xC 18 (.mv (.t 1)),
 xC 19 (.bin .and (.t 18) (.k (.lit (.int .u64 4294967295)))),
 xC 8 (.mv (.t 19))])
 (.seq (.reg [] [xC 20 (.mv (.t 1)),
 xC 21 (.bin .shr (.t 20) (.k (.lit (.int .u64 32)))),
 xC 9 (.mv (.t 21))])
 (.seq (.reg [] [xC 22 (.mv (.t 6)),
 xC 23 (.mv (.t 8)),
 xC 24 (.bin .mul (.t 22) (.t 23)),
 xC 10 (.mv (.t 24))])
 (.seq (.reg [] [xC 25 (.mv (.t 7)),
 xC 26 (.mv (.t 8)),
 xC 27 (.bin .mul (.t 25) (.t 26)),
 xC 28 (.mv (.t 10)),
 xC 29 (.bin .shr (.t 28) (.k (.lit (.int .u64 32)))),
 xC 30 (.bin .add (.t 27) (.t 29)),
 xC 11 (.mv (.t 30))])
 (.seq (.reg [] [xC 31 (.mv (.t 11)),
 xC 32 (.bin .and (.t 31) (.k (.lit (.int .u64 4294967295)))),
 xC 12 (.mv (.t 32))])
 (.seq (.reg [] [xC 33 (.mv (.t 11)),
 xC 34 (.bin .shr (.t 33) (.k (.lit (.int .u64 32)))),
 xC 13 (.mv (.t 34))])
 (.seq (.reg [] [xC 35 (.mv (.t 12)),
 xC 36 (.mv (.t 6)),
 xC 37 (.mv (.t 9)),
 xC 38 (.bin .mul (.t 36) (.t 37)),
 xC 39 (.bin .add (.t 35) (.t 38)),
 xC 12 (.mv (.t 39))])
 (.seq (.reg [] [xC 40 (.mv (.t 7)),
 xC 41 (.mv (.t 9)),
 xC 42 (.bin .mul (.t 40) (.t 41)),
 xC 43 (.mv (.t 13)),
 xC 44 (.bin .add (.t 42) (.t 43)),
 xC 45 (.mv (.t 12)),
 xC 46 (.bin .shr (.t 45) (.k (.lit (.int .u64 32)))),
 xC 47 (.bin .add (.t 44) (.t 46)),
 xC 4 (.mv (.t 47))])
 (.seq (.reg [] [xC 48 (.mv (.t 0)),
 xC 49 (.mv (.t 1)),
 xC 50 (.bin .mul (.t 48) (.t 49)),
 xC 5 (.mv (.t 50))])
 .ret)))))))))))), [(.tmp 4), (.tmp 5)], [], true⟩
theorem hb104 : hasBody Tryz.prog 104 = true := by kernel_rfl
theorem fk104 : FEOK Tryz.prog 104 fe104 := ⟨by kernel_rfl, by kernel_rfl, hb104⟩
/-- isohyet/mag.right -/
def fe106 : FE := ⟨21, (.seq (.reg [] [xC 2 (.mv (.k sZ))])
 (.seq (.block 0 (.loop (.seq (.seq (.reg [] [xC 3 (.mv (.t 0)),
 xC 4 (.len (.t 3)),
 xC 5 (.bin .gtr (.t 4) kZ),
 xC 6 (.mv (.t 5)),
 ⟨(some 7), (some (6, true)), (.mv (.t 0))⟩,
 ⟨(some 8), (some (6, true)), (.mv (.t 0))⟩,
 ⟨(some 9), (some (6, true)), (.len (.t 8))⟩,
 ⟨(some 10), (some (6, true)), (.bin .sub (.t 9) (kN 1))⟩,
 ⟨(some 11), (some (6, true)), (.iad 1 (.t 7) (.t 10))⟩,
 ⟨(some 12), (some (6, true)), (.ld false 1 (.t 11))⟩,
 ⟨(some 13), (some (6, true)), (.bin .eql (.t 12) (.k (.lit (.int .u64 0))))⟩,
 xC 14 (.pick (.t 6) (.t 13) (.k bF))])
 (.cond (.t 14) .skip (.exit 0)))
 (.block 1 (.reg [] [xC 15 (.mv (.t 0)),
 xC 16 (.mv (.t 0)),
 xC 17 (.len (.t 16)),
 xC 18 (.bin .sub (.t 17) (kN 1)),
 xC 19 (.sls 1 (.t 15) none (some (.t 18))),
 xC 0 (.mv (.t 19))])))))
 (.seq (.reg [] [xC 20 (.mv (.t 0)),
 xC 2 (.mv (.t 20))])
 .ret))), [(.tmp 2)], [], true⟩
theorem hb106 : hasBody Tryz.prog 106 = true := by kernel_rfl
theorem fk106 : FEOK Tryz.prog 106 fe106 := ⟨by kernel_rfl, by kernel_rfl, hb106⟩
/-- isohyet/mag.Cmp -/
def fe107 : FE := ⟨45, (.seq (.reg [] [xC 4 (.mv kZ)])
 (.seq (.reg [] [xC 6 (.mv (.t 0)),
 xC 7 (.call 106 [(.t 6)]),
 xC 8 (.mv (.t 1)),
 xC 9 (.call 106 [(.t 8)]),
 xC 0 (.mv (.t 7)),
 xC 1 (.mv (.t 9))])
 (.seq (.seq (.reg [] [xC 10 (.mv (.t 0)),
 xC 11 (.len (.t 10)),
 xC 12 (.mv (.t 1)),
 xC 13 (.len (.t 12)),
 xC 14 (.bin .neq (.t 11) (.t 13))])
 (.cond (.t 14) (.seq (.seq (.reg [] [xC 15 (.mv (.t 0)),
 xC 16 (.len (.t 15)),
 xC 17 (.mv (.t 1)),
 xC 18 (.len (.t 17)),
 xC 19 (.bin .lss (.t 16) (.t 18))])
 (.cond (.t 19) (.seq (.reg [] [xC 4 (.mv (.k (.lit (.int .i64 (-1)))))])
 .ret) .skip))
 (.seq (.reg [] [xC 4 (.mv (kN 1))])
 .ret)) .skip))
 (.seq (.seq (.reg [] [xC 20 (.mv (.t 0)),
 xC 21 (.len (.t 20)),
 xC 22 (.bin .sub (.t 21) (kN 1)),
 xC 5 (.mv (.t 22))])
 (.block 0 (.loop (.seq (.seq (.reg [] [xC 23 (.mv (.t 5)),
 xC 24 (.bin .geq (.t 23) kZ)])
 (.cond (.t 24) .skip (.exit 0)))
 (.seq (.block 1 (.seq (.regd [] [[], [], [0, 1], [2], [], [], [4, 5], [6], [3, 7]] [xU 27 (.mv (.t 0)),
 xU 28 (.mv (.t 5)),
 xU 29 (.iad 1 (.t 27) (.t 28)),
 xV 30 (.ld false 1 (.t 29)),
 xU 31 (.mv (.t 1)),
 xU 32 (.mv (.t 5)),
 xU 33 (.iad 1 (.t 31) (.t 32)),
 xV 34 (.ld false 1 (.t 33)),
 xU 35 (.bin .neq (.t 30) (.t 34))])
 (.cond (.t 35) (.seq (.seq (.regd [] [[], [], [0, 1], [2], [], [], [4, 5], [6], [3, 7]] [xU 36 (.mv (.t 0)),
 xU 37 (.mv (.t 5)),
 xU 38 (.iad 1 (.t 36) (.t 37)),
 xV 39 (.ld false 1 (.t 38)),
 xU 40 (.mv (.t 1)),
 xU 41 (.mv (.t 5)),
 xU 42 (.iad 1 (.t 40) (.t 41)),
 xV 43 (.ld false 1 (.t 42)),
 xU 44 (.bin .lss (.t 39) (.t 43))])
 (.cond (.t 44) (.seq (.reg [] [xC 4 (.mv (.k (.lit (.int .i64 (-1)))))])
 .ret) .skip))
 (.seq (.reg [] [xC 4 (.mv (kN 1))])
 .ret)) .skip)))
 (.reg [] [xC 25 (.mv (.t 5)),
 xC 26 (.bin .sub (.t 25) (kN 1)),
 xC 5 (.mv (.t 26))]))))))
 (.seq (.reg [] [xC 4 (.mv kZ)])
 .ret))))), [(.tmp 4)], [], true⟩
theorem hb107 : hasBody Tryz.prog 107 = true := by kernel_rfl
theorem fk107 : FEOK Tryz.prog 107 fe107 := ⟨by kernel_rfl, by kernel_rfl, hb107⟩
/-- isohyet/mag.Sub -/
def fe108 : FE := ⟨49, (.seq (.reg [] [xC 4 (.mv (.k sZ))])
 (.seq (.reg [] [xC 10 (.mv (.t 0)),
 xC 11 (.call 106 [(.t 10)]),
 xC 12 (.mv (.t 1)),
 xC 13 (.call 106 [(.t 12)]),
 xC 0 (.mv (.t 11)),
 xC 1 (.mv (.t 13))])
 (.seq (.seq (.reg [] [xC 14 (.mv (.t 0)),
 xC 15 (.mv (.t 1)),
 xC 16 (.call 107 [(.t 14), (.t 15)]),
 xC 17 (.bin .leq (.t 16) kZ)])
 (.cond (.t 17) (.seq (.reg [] [xC 4 (.mv (.k sZ))])
 .ret) .skip))
 (.seq (.reg [] [xC 18 (.mv (.t 0)),
 xC 19 (.len (.t 18)),
 xC 20 (.mks 1 8 [(.lit (.int .u64 0))] (.t 19) (.t 19)),
 xC 5 (.mv (.t 20))])
 (.seq (.reg [] [xC 6 (.mv (.k (.lit (.int .u64 0))))])
 (.seq (.seq (.reg [] [xC 21 (.mv (.t 0)),
 xC 22 (.len (.t 21)),
 xC 23 (.mv kZ)])
 (.block 0 (.loop (.seq (.reg [] [xC 24 (.bin .lss (.t 23) (.t 22))])
 (.seq (.cond (.t 24) .skip (.exit 0))
 (.seq (.block 1 (.seq (.reg [] [xC 25 (.mv (.t 23)),
 xC 26 (.iad 1 (.t 21) (.t 23)),
 xC 27 (.ld false 1 (.t 26)),
 xC 7 (.mv (.t 25)),
 xC 8 (.mv (.t 27))])
 (.seq (.reg [] [xC 9 (.mv (.k (.lit (.int .u64 0))))])
 (.seq (.seq (.reg [] [xC 28 (.mv (.t 7)),
 xC 29 (.mv (.t 1)),
 xC 30 (.len (.t 29)),
 xC 31 (.bin .lss (.t 28) (.t 30))])
 (.cond (.t 31) (.reg [] [xC 32 (.mv (.t 1)),
 xC 33 (.mv (.t 7)),
 xC 34 (.iad 1 (.t 32) (.t 33)),
 xC 35 (.ld false 1 (.t 34)),
 xC 9 (.mv (.t 35))]) .skip))
 (.reg [] [xC 37 (.mv (.t 5)),
 xC 38 (.mv (.t 7)),
 xC 39 (.mv (.t 8)),
 xC 40 (.mv (.t 9)),
 xC 41 (.mv (.t 6)),
 xC 42 (.sbb (.t 39) (.t 40) (.t 41)),
 xC 36 (.mv (.t 42)),
 xC 43 (.ext (.t 36) 0),
 xC 44 (.ext (.t 36) 1),
 xC 45 (.iad 1 (.t 37) (.t 38)),
 ⟨none, none, (.st 1 (.t 45) (.t 43))⟩,
 xC 6 (.mv (.t 44))])))))
 (.reg [] [xC 46 (.bin .add (.t 23) (kN 1)),
 xC 23 (.mv (.t 46))])))))))
 (.seq (.reg [] [xC 47 (.mv (.t 5)),
 xC 48 (.call 106 [(.t 47)]),
 xC 4 (.mv (.t 48))])
 .ret))))))), [(.tmp 4)], [], true⟩
theorem hb108 : hasBody Tryz.prog 108 = true := by kernel_rfl
theorem fk108 : FEOK Tryz.prog 108 fe108 := ⟨by kernel_rfl, by kernel_rfl, hb108⟩
/-- slices.stableCmpFunc[isohyet/steal.Share] -/
def fe109 : FE := ⟨63, (.seq (.reg [] [xC 6 (.mv (kN 20))])
 (.seq (.reg [] [xC 10 (.mv (.t 6)),
 xC 7 (.mv kZ),
 xC 8 (.mv (.t 10))])
 (.seq (.block 0 (.loop (.seq (.seq (.reg [] [xC 11 (.mv (.t 8)),
 xC 12 (.mv (.t 1)),
 xC 13 (.bin .leq (.t 11) (.t 12))])
 (.cond (.t 13) .skip (.exit 0)))
 (.block 1 (.seq (.reg [] [xC 14 (.mv (.t 0)),
 xC 15 (.mv (.t 7)),
 xC 16 (.mv (.t 8)),
 xC 17 (.mv (.t 2)),
 xC 18 (.call 157 [(.t 14), (.t 15), (.t 16), (.t 17)])])
 (.seq (.reg [] [xC 19 (.mv (.t 8)),
 xC 7 (.mv (.t 19))])
 (.reg [] [xC 20 (.mv (.t 8)),
 xC 21 (.mv (.t 6)),
 xC 22 (.bin .add (.t 20) (.t 21)),
 xC 8 (.mv (.t 22))])))))))
 (.seq (.reg [] [xC 23 (.mv (.t 0)),
 xC 24 (.mv (.t 7)),
 xC 25 (.mv (.t 1)),
 xC 26 (.mv (.t 2)),
 xC 27 (.call 157 [(.t 23), (.t 24), (.t 25), (.t 26)])])
 (.block 2 (.loop (.seq (.seq (.reg [] [xC 28 (.mv (.t 6)),
 xC 29 (.mv (.t 1)),
 xC 30 (.bin .lss (.t 28) (.t 29))])
 (.cond (.t 30) .skip (.exit 2)))
 (.block 3 (.seq (.reg [] [xC 31 (.mv (.t 6)),
 xC 32 (.bin .mul (kN 2) (.t 31)),
 xC 7 (.mv kZ),
 xC 8 (.mv (.t 32))])
 (.seq (.block 4 (.loop (.seq (.seq (.reg [] [xC 33 (.mv (.t 8)),
 xC 34 (.mv (.t 1)),
 xC 35 (.bin .leq (.t 33) (.t 34))])
 (.cond (.t 35) .skip (.exit 4)))
 (.block 5 (.seq (.reg [] [xC 36 (.mv (.t 0)),
 xC 37 (.mv (.t 7)),
 xC 38 (.mv (.t 7)),
 xC 39 (.mv (.t 6)),
 xC 40 (.bin .add (.t 38) (.t 39)),
 xC 41 (.mv (.t 8)),
 xC 42 (.mv (.t 2)),
 xC 43 (.call 158 [(.t 36), (.t 37), (.t 40), (.t 41), (.t 42)])])
 (.seq (.reg [] [xC 44 (.mv (.t 8)),
 xC 7 (.mv (.t 44))])
 (.reg [] [xC 45 (.mv (.t 8)),
 xC 46 (.mv (.t 6)),
 xC 47 (.bin .mul (kN 2) (.t 46)),
 xC 48 (.bin .add (.t 45) (.t 47)),
 xC 8 (.mv (.t 48))])))))))
 (.seq (.seq (.reg [] [xC 49 (.mv (.t 7)),
 xC 50 (.mv (.t 6)),
 xC 51 (.bin .add (.t 49) (.t 50)),
 xC 9 (.mv (.t 51))])
 (.seq (.reg [] [xC 52 (.mv (.t 9)),
 xC 53 (.mv (.t 1)),
 xC 54 (.bin .lss (.t 52) (.t 53))])
 (.cond (.t 54) (.reg [] [xC 55 (.mv (.t 0)),
 xC 56 (.mv (.t 7)),
 xC 57 (.mv (.t 9)),
 xC 58 (.mv (.t 1)),
 xC 59 (.mv (.t 2)),
 xC 60 (.call 158 [(.t 55), (.t 56), (.t 57), (.t 58), (.t 59)])]) .skip)))
 (.reg [] [xC 61 (.mv (.t 6)),
 xC 62 (.bin .mul (.t 61) (kN 2)),
 xC 6 (.mv (.t 62))])))))))))))), [], [], false⟩
theorem hb109 : hasBody Tryz.prog 109 = true := by kernel_rfl
theorem fk109 : FEOK Tryz.prog 109 fe109 := ⟨by kernel_rfl, by kernel_rfl, hb109⟩
/-- slices.Contains[[]int,int] -/
def fe111 : FE := ⟨9, (.seq (.reg [] [xC 4 (.mv (.k bF))])
 (.seq (.reg [] [xC 5 (.mv (.t 0)),
 xC 6 (.mv (.t 1)),
 xC 7 (.call 54 [(.t 5), (.t 6)]),
 xC 8 (.bin .geq (.t 7) kZ),
 xC 4 (.mv (.t 8))])
 .ret)), [(.tmp 4)], [], true⟩
theorem hb111 : hasBody Tryz.prog 111 = true := by kernel_rfl
theorem fk111 : FEOK Tryz.prog 111 fe111 := ⟨by kernel_rfl, by kernel_rfl, hb111⟩
/-- isohyet/steal.centre -/
def fe112 : FE := ⟨45, (.seq (.reg [4] [xC 4 (.new [bF, sZ, sZ, bF, sZ, sZ])])
 (.seq (.reg [5] [xC 8 (.mv (.t 0)),
 xC 9 (.nck (.t 8)),
 xC 10 (.fad 1 (.t 9)),
 xC 11 (.ld false 1 (.t 10)),
 xC 12 (.mv (.t 1)),
 xC 13 (.iad 9 (.t 11) (.t 12)),
 xC 14 (.fad 0 (.t 13)),
 xC 15 (.ld true 3 (.t 14)),
 xC 5 (.new [(zN 0), (zN 0), (zN 0)]),
 ⟨none, none, (.st 3 (.t 5) (.t 15))⟩])
 (.seq (.regd [6] [[], [0], [1], [2], [], [4], [3, 5], [6], [], [8], [9], [10], [], [12], [11, 13], [14], [], [16], [17], [18], [], [20], [19, 21], [22], [7, 15, 23], [24], [25], [25], [], [28, 26, 24, 0, 1, 2, 3, 4, 5, 6, 7, 8, 9, 10, 11, 12, 13, 14, 15, 16, 17, 18, 19, 20, 21, 22, 23, 24, 25, 26, 28], [27, 29, 0, 1, 2, 3, 4, 5, 6, 7, 8, 9, 10, 11, 12, 13, 14, 15, 16, 17, 18, 19, 20, 21, 22, 23, 24, 25, 26, 27, 28, 29]] [xU 17 (.mv (.t 0)),
 xU 18 (.nck (.t 17)),
 xU 19 (.fad 0 (.t 18)),
 xV 20 (.ld false 1 (.t 19)),
 (xC 21 (.iaa 3 1 (.t 5) kZ), ⟨[5], none, false, false⟩),
 (xC 22 (.ld false 1 (.t 21)), ⟨[5], none, false, false⟩),
 xU 23 (.iad 2 (.t 20) (.t 22)),
 xV 24 (.ld true 2 (.t 23)),
 xU 25 (.mv (.t 0)),
 xU 26 (.nck (.t 25)),
 xU 27 (.fad 0 (.t 26)),
 xV 28 (.ld false 1 (.t 27)),
 (xC 29 (.iaa 3 1 (.t 5) (kN 1)), ⟨[5], none, false, false⟩),
 (xC 30 (.ld false 1 (.t 29)), ⟨[5], none, false, false⟩),
 xU 31 (.iad 2 (.t 28) (.t 30)),
 xV 32 (.ld true 2 (.t 31)),
 xU 33 (.mv (.t 0)),
 xU 34 (.nck (.t 33)),
 xU 35 (.fad 0 (.t 34)),
 xV 36 (.ld false 1 (.t 35)),
 (xC 37 (.iaa 3 1 (.t 5) (kN 2)), ⟨[5], none, false, false⟩),
 (xC 38 (.ld false 1 (.t 37)), ⟨[5], none, false, false⟩),
 xU 39 (.iad 2 (.t 36) (.t 38)),
 xV 40 (.ld true 2 (.t 39)),
 xV 41 (.call 21 [(.t 24), (.t 32), (.t 40)]),
 xU 16 (.mv (.t 41)),
 xU 42 (.ext (.t 16) 0),
 xU 43 (.ext (.t 16) 1),
 (xC 6 (.new [bF, sZ, sZ, bF, sZ, sZ]), ⟨[6], some 6, false, false⟩),
 (⟨none, none, (.st 6 (.t 6) (.t 42))⟩, ⟨[6], some 6, false, false⟩),
 xU 7 (.mv (.t 43))])
 (.seq (.reg [] [xC 44 (.ld true 6 (.t 6)),
 ⟨none, none, (.st 6 (.t 4) (.t 44))⟩])
 .ret)))), [(.cell 4 true 6)], [], true⟩
theorem hb112 : hasBody Tryz.prog 112 = true := by kernel_rfl
theorem fk112 : FEOK Tryz.prog 112 fe112 := ⟨by kernel_rfl, by kernel_rfl, hb112⟩
/-- (*isohyet/mesh.Mesh).Make -/
def fe113 : FE := ⟨83, (.seq (.reg [] [xC 8 (.mv kZ)])
 (.seq (.reg [9] [xC 14 (.mv (.t 1)),
 xC 15 (.mv (.t 2)),
 xC 16 (.mv (.t 3)),
 xC 17 (.bld [(zN 0), (zN 0), (zN 0)] [(0, (1, (.t 14))), (1, (1, (.t 15))), (2, (1, (.t 16)))]),
 xC 18 (.bld [(zN 0), (zN 0), (zN 0)] [(0, (1, (.k (.lit (.int .i64 (-1)))))), (1, (1, (.k (.lit (.int .i64 (-1)))))), (2, (1, (.k (.lit (.int .i64 (-1))))))]),
 xC 19 (.bld [(zN 0), (zN 0), (zN 0), (zN 0), (zN 0), (zN 0), bF, bF, bF] [(0, (3, (.t 17))), (3, (3, (.t 18)))]),
 xC 9 (.new [(zN 0), (zN 0), (zN 0), (zN 0), (zN 0), (zN 0), bF, bF, bF]),
 ⟨none, none, (.st 9 (.t 9) (.t 19))⟩])
 (.seq (.reg [] [xC 20 (.mv (.t 0)),
 xC 21 (.nck (.t 20)),
 xC 22 (.fad 1 (.t 21)),
 xC 23 (.ld false 1 (.t 22)),
 xC 24 (.len (.t 23)),
 xC 10 (.mv (.t 24))])
 (.seq (.seq (.reg [] [xC 25 (.mv (.t 0)),
 xC 26 (.nck (.t 25)),
 xC 27 (.fad 2 (.t 26)),
 xC 28 (.ld false 1 (.t 27)),
 xC 29 (.len (.t 28)),
 xC 11 (.mv (.t 29))])
 (.seq (.reg [] [xC 30 (.mv (.t 11)),
 xC 31 (.bin .gtr (.t 30) kZ)])
 (.cond (.t 31) (.seq (.regd [] [[], [], [1], [2], [3], [], [5], [4, 6], [7], [], [9], [10], [11], [], [13], [12, 14], [8, 1, 2, 3, 4, 5, 6, 7, 8], [0, 0, 1, 2, 3, 4, 5, 6, 7, 8, 9, 10, 11, 12, 13, 14, 15, 16], [17, 0, 1, 2, 3, 4, 5, 6, 7, 8, 9, 10, 11, 12, 13, 14, 15, 16], [18, 15, 16, 0, 1, 2, 3, 4, 5, 6, 7, 8, 9, 10, 11, 12, 13, 14, 15, 16]] [xU 32 (.mv (.t 0)),
 xU 33 (.mv (.t 0)),
 xU 34 (.nck (.t 33)),
 xU 35 (.fad 2 (.t 34)),
 xV 36 (.ld false 1 (.t 35)),
 xU 37 (.mv (.t 11)),
 xU 38 (.bin .sub (.t 37) (kN 1)),
 xU 39 (.iad 1 (.t 36) (.t 38)),
 xV 40 (.ld false 1 (.t 39)),
 xU 41 (.mv (.t 0)),
 xU 42 (.nck (.t 41)),
 xU 43 (.fad 2 (.t 42)),
 xV 44 (.ld false 1 (.t 43)),
 xU 45 (.mv (.t 11)),
 xU 46 (.bin .sub (.t 45) (kN 1)),
 xU 47 (.sls 1 (.t 44) none (some (.t 46))),
 xU 10 (.mv (.t 40)),
 xU 48 (.nck (.t 32)),
 xU 49 (.fad 2 (.t 48)),
 (⟨none, none, (.st 1 (.t 49) (.t 47))⟩, ⟨[], none, true, true⟩)])
 (.regd [] [[], [0], [1], [2], [], [], [3, 4, 0, 1, 2, 3, 4, 5], [6, 5, 0, 1, 2, 3, 4, 5]] [xU 50 (.mv (.t 0)),
 xU 51 (.nck (.t 50)),
 xU 52 (.fad 1 (.t 51)),
 xV 53 (.ld false 1 (.t 52)),
 xU 54 (.mv (.t 10)),
 (xC 55 (.ld true 9 (.t 9)), ⟨[9], none, false, false⟩),
 xU 56 (.iad 9 (.t 53) (.t 54)),
 (⟨none, none, (.st 9 (.t 56) (.t 55))⟩, ⟨[], none, true, true⟩)])) (.regd [] [[], [], [1], [2], [3], [], [5], [4, 6], [0, 0, 1, 2, 3, 4, 5, 6, 7], [8, 0, 1, 2, 3, 4, 5, 6, 7], [9, 7, 7, 0, 1, 2, 3, 4, 5, 6, 7]] [xU 57 (.mv (.t 0)),
 xU 58 (.mv (.t 0)),
 xU 59 (.nck (.t 58)),
 xU 60 (.fad 1 (.t 59)),
 xV 61 (.ld false 1 (.t 60)),
 (xC 62 (.ld true 9 (.t 9)), ⟨[9], none, false, false⟩),
 xU 63 (.bsl 1 9 [(zN 0), (zN 0), (zN 0), (zN 0), (zN 0), (zN 0), bF, bF, bF] [(0, (9, (.t 62)))]),
 (xC 64 (.app 9 56 (.t 61) (.t 63)), ⟨[], none, true, true⟩),
 xU 65 (.nck (.t 57)),
 xU 66 (.fad 1 (.t 65)),
 (⟨none, none, (.st 1 (.t 66) (.t 64))⟩, ⟨[], none, true, true⟩)]))))
 (.seq (.seq (.reg [] [xC 67 (.fad 0 (.t 9)),
 xC 68 (.ld true 3 (.t 67)),
 xC 69 (.mv kZ)])
 (.block 0 (.loop (.seq (.reg [] [xC 70 (.bin .lss (.t 69) (kN 3))])
 (.seq (.cond (.t 70) .skip (.exit 0))
 (.seq (.block 1 (.seq (.reg [] [xC 71 (.ixa 3 1 false (.t 68) (.t 69)),
 xC 13 (.mv (.t 71))])
 (.seq (.reg [] [xC 72 (.mv (.t 13)),
 xC 73 (.bin .geq (.t 72) kZ)])
 (.cond (.t 73) (.reg [] [xC 74 (.mv (.t 0)),
 xC 75 (.nck (.t 74)),
 xC 76 (.fad 3 (.t 75)),
 xC 77 (.ld false 1 (.t 76)),
 xC 78 (.mv (.t 13)),
 xC 79 (.mv (.t 10)),
 xC 80 (.iad 1 (.t 77) (.t 78)),
 ⟨none, none, (.st 1 (.t 80) (.t 79))⟩]) .skip))))
 (.reg [] [xC 81 (.bin .add (.t 69) (kN 1)),
 xC 69 (.mv (.t 81))])))))))
 (.seq (.reg [] [xC 82 (.mv (.t 10)),
 xC 8 (.mv (.t 82))])
 .ret)))))), [(.tmp 8)], [], false⟩
theorem hb113 : hasBody Tryz.prog 113 = true := by kernel_rfl
theorem fk113 : FEOK Tryz.prog 113 fe113 := ⟨by kernel_rfl, by kernel_rfl, hb113⟩
/-- (*isohyet/mesh.Mesh).Link -/
def fe114 : FE := ⟨52, (.seq (.regd [] [[], [0], [1], [2], [], [], [], [6], [7], [8], [], [], [], [], [3, 4], [14], [15, 5, 0, 1, 2, 3, 4, 5, 9, 12], [16, 12, 0, 1, 2, 3, 4, 5, 9, 12], [9, 10], [18], [19, 11, 0, 1, 2, 3, 4, 5, 6, 7, 8, 9, 10, 11, 12, 13, 14, 15, 16, 17], [20, 13, 17, 0, 1, 2, 3, 4, 5, 6, 7, 8, 9, 10, 11, 12, 13, 14, 15, 16, 17]] [xU 12 (.mv (.t 0)),
 xU 13 (.nck (.t 12)),
 xU 14 (.fad 1 (.t 13)),
 xV 15 (.ld false 1 (.t 14)),
 xU 16 (.mv (.t 1)),
 xU 17 (.mv (.t 2)),
 xU 18 (.mv (.t 0)),
 xU 19 (.nck (.t 18)),
 xU 20 (.fad 1 (.t 19)),
 xV 21 (.ld false 1 (.t 20)),
 xU 22 (.mv (.t 3)),
 xU 23 (.mv (.t 4)),
 xU 24 (.mv (.t 3)),
 xU 25 (.mv (.t 1)),
 xU 26 (.iad 9 (.t 15) (.t 16)),
 xU 27 (.fad 3 (.t 26)),
 xU 28 (.iaa 3 1 (.t 27) (.t 17)),
 (⟨none, none, (.st 1 (.t 28) (.t 24))⟩, ⟨[], none, true, true⟩),
 xU 29 (.iad 9 (.t 21) (.t 22)),
 xU 30 (.fad 3 (.t 29)),
 xU 31 (.iaa 3 1 (.t 30) (.t 23)),
 (⟨none, none, (.st 1 (.t 31) (.t 25))⟩, ⟨[], none, true, true⟩)])
 (.regd [] [[], [0], [1], [2], [], [], [], [6], [7], [8], [], [], [], [], [3, 4], [14], [15, 5, 0, 1, 2, 3, 4, 5, 9, 12], [16, 12, 0, 1, 2, 3, 4, 5, 9, 12], [9, 10], [18], [19, 11, 0, 1, 2, 3, 4, 5, 6, 7, 8, 9, 10, 11, 12, 13, 14, 15, 16, 17], [20, 13, 17, 0, 1, 2, 3, 4, 5, 6, 7, 8, 9, 10, 11, 12, 13, 14, 15, 16, 17]] [xU 32 (.mv (.t 0)),
 xU 33 (.nck (.t 32)),
 xU 34 (.fad 1 (.t 33)),
 xV 35 (.ld false 1 (.t 34)),
 xU 36 (.mv (.t 1)),
 xU 37 (.mv (.t 2)),
 xU 38 (.mv (.t 0)),
 xU 39 (.nck (.t 38)),
 xU 40 (.fad 1 (.t 39)),
 xV 41 (.ld false 1 (.t 40)),
 xU 42 (.mv (.t 3)),
 xU 43 (.mv (.t 4)),
 xU 44 (.mv (.t 5)),
 xU 45 (.mv (.t 5)),
 xU 46 (.iad 9 (.t 35) (.t 36)),
 xU 47 (.fad 6 (.t 46)),
 xU 48 (.iaa 3 1 (.t 47) (.t 37)),
 (⟨none, none, (.st 1 (.t 48) (.t 44))⟩, ⟨[], none, true, true⟩),
 xU 49 (.iad 9 (.t 41) (.t 42)),
 xU 50 (.fad 6 (.t 49)),
 xU 51 (.iaa 3 1 (.t 50) (.t 43)),
 (⟨none, none, (.st 1 (.t 51) (.t 45))⟩, ⟨[], none, true, true⟩)])), [], [], false⟩
theorem hb114 : hasBody Tryz.prog 114 = true := by kernel_rfl
theorem fk114 : FEOK Tryz.prog 114 fe114 := ⟨by kernel_rfl, by kernel_rfl, hb114⟩
/-- isohyet/walk.Find -/
def fe115 : FE := ⟨68, (.seq (.reg [5, 8] [xC 5 (.box (.t 1)),
 xC 8 (.new [(zN 0), (zN 0), (zN 0), (zN 0)]),
 xC 9 (.mv kZ)])
 (.scope (.seq (.reg [] [xC 15 (.mv (.t 2)),
 xC 10 (.mv (.t 15))])
 (.seq (.seq (.reg [] [xC 16 (.mv (.t 0)),
 xC 17 (.mv (.t 10)),
 xC 18 (.call 50 [(.t 16), (.t 17)]),
 xC 19 (.un .not (.t 18))])
 (.cond (.t 19) (.reg [] [xC 20 (.mv (.t 0)),
 xC 21 (.call 159 [(.t 20)]),
 xC 10 (.mv (.t 21))]) .skip))
 (.seq (.reg [] [xC 11 (.mv kZ)])
 (.seq .lab
 (.seq (.block 0 (.loop (.seq (.seq (.reg [] [xC 22 (.mv (.t 10)),
 xC 23 (.bin .geq (.t 22) kZ),
 xC 24 (.mv (.t 23)),
 ⟨(some 25), (some (24, true)), (.mv (.t 11))⟩,
 ⟨(some 26), (some (24, true)), (.mv (.t 3))⟩,
 ⟨(some 27), (some (24, true)), (.bin .lss (.t 25) (.t 26))⟩,
 xC 28 (.pick (.t 24) (.t 27) (.k bF))])
 (.cond (.t 28) .skip (.exit 0)))
 (.block 1 (.seq (.reg [] [xC 29 (.mv (.t 11)),
 xC 30 (.bin .add (.t 29) (kN 1)),
 xC 11 (.mv (.t 30))])
 (.seq (.reg [12] [xC 31 (.mv (.t 0)),
 xC 32 (.nck (.t 31)),
 xC 33 (.fad 1 (.t 32)),
 xC 34 (.ld false 1 (.t 33)),
 xC 35 (.mv (.t 10)),
 xC 36 (.iad 9 (.t 34) (.t 35)),
 xC 37 (.ld true 9 (.t 36)),
 xC 12 (.new [(zN 0), (zN 0), (zN 0), (zN 0), (zN 0), (zN 0), bF, bF, bF]),
 ⟨none, none, (.st 9 (.t 12) (.t 37))⟩])
 (.seq (.seq (.reg [] [xC 38 (.fad 3 (.t 12)),
 xC 39 (.ld true 3 (.t 38)),
 xC 40 (.mv kZ)])
 (.block 2 (.loop (.seq (.reg [] [xC 41 (.bin .lss (.t 40) (kN 3))])
 (.seq (.cond (.t 41) .skip (.exit 2))
 (.seq (.block 3 (.seq (.reg [] [xC 42 (.mv (.t 40)),
 xC 43 (.ixa 3 1 false (.t 39) (.t 40)),
 xC 13 (.mv (.t 42)),
 xC 14 (.mv (.t 43))])
 (.seq (.seq (.reg [] [xC 44 (.mv (.t 0)),
 xC 45 (.ld true 9 (.t 12)),
 xC 46 (.mv (.t 13)),
 xC 47 (.ld true 2 (.t 5)),
 xC 48 (.call 78 [(.t 44), (.t 45), (.t 46), (.t 47)]),
 xC 49 (.un .not (.t 48))])
 (.cond (.t 49) (.exit 3) .skip))
 (.seq (.seq (.reg [] [xC 50 (.mv (.t 0)),
 xC 51 (.mv (.t 14)),
 xC 52 (.call 50 [(.t 50), (.t 51)]),
 xC 53 (.un .not (.t 52))])
 (.cond (.t 53) (.seq (.reg [] [xC 54 (.mv (.t 14)),
 xC 55 (.bld [(zN 0), (zN 0), (zN 0), (zN 0)] [(0, (1, (kN 3))), (1, (1, (.t 54)))]),
 xC 56 (.mv (.t 11)),
 ⟨none, none, (.st 4 (.t 8) (.t 55))⟩,
 xC 9 (.mv (.t 56))])
 .ret) .skip))
 (.seq (.reg [] [xC 57 (.mv (.t 14)),
 xC 10 (.mv (.t 57))])
 (.exit 1))))))
 (.reg [] [xC 58 (.bin .add (.t 40) (kN 1)),
 xC 40 (.mv (.t 58))])))))))
 (.seq (.reg [] [xC 59 (.mv (.t 0)),
 xC 60 (.mv (.t 10)),
 xC 61 (.ld true 2 (.t 5)),
 xC 62 (.call 77 [(.t 59), (.t 60), (.t 61)]),
 xC 63 (.mv (.t 11)),
 ⟨none, none, (.st 4 (.t 8) (.t 62))⟩,
 xC 9 (.mv (.t 63))])
 .ret))))))))
 (.seq (.reg [] [xC 64 (.mv (.t 0)),
 xC 65 (.ld true 2 (.t 5)),
 xC 66 (.call 40 [(.t 64), (.t 65)]),
 xC 67 (.mv (.t 11)),
 ⟨none, none, (.st 4 (.t 8) (.t 66))⟩,
 xC 9 (.mv (.t 67))])
 .ret)))))))), [(.cell 8 true 4), (.tmp 9)], [], true⟩
theorem hb115 : hasBody Tryz.prog 115 = true := by kernel_rfl
theorem fk115 : FEOK Tryz.prog 115 fe115 := ⟨by kernel_rfl, by kernel_rfl, hb115⟩
/-- isohyet/grow.parted -/
def fe116 : FE := ⟨38, (.seq (.reg [3, 4] [xC 3 (.box (.t 1)),
 xC 4 (.new [(zN 0), (zN 0)]),
 xC 5 (.mv (.k bF))])
 (.seq (.seq (.reg [] [xC 9 (.fad 0 (.t 3)),
 xC 10 (.ld false 1 (.t 9)),
 xC 11 (.bin .neq (.t 10) (kN 1))])
 (.cond (.t 11) (.seq (.reg [] [xC 12 (.bld [(zN 0), (zN 0)] []),
 ⟨none, none, (.st 2 (.t 4) (.t 12))⟩,
 xC 5 (.mv (.k bF))])
 .ret) .skip))
 (.seq (.reg [] [xC 14 (.mv (.t 0)),
 xC 15 (.fad 2 (.t 3)),
 xC 16 (.ld false 1 (.t 15)),
 xC 17 (.fad 3 (.t 3)),
 xC 18 (.ld false 1 (.t 17)),
 xC 19 (.call 49 [(.t 14), (.t 16), (.t 18)]),
 xC 13 (.mv (.t 19)),
 xC 20 (.ext (.t 13) 0),
 xC 21 (.ext (.t 13) 1),
 xC 22 (.ext (.t 13) 2),
 xC 6 (.mv (.t 20)),
 xC 7 (.mv (.t 21)),
 xC 8 (.mv (.t 22))])
 (.seq (.regd [] [[], [0], [], [2], [1, 3], [], [5], [6], [7], [], [], [8, 9], [11], [12, 10], [13], [4, 0, 1, 2, 3, 4], [14, 15, 0, 1, 2, 3, 4, 5, 6, 7, 8, 9, 10, 11, 12, 13, 14, 15]] [(xC 23 (.fad 2 (.t 3)), ⟨[3], none, false, false⟩),
 (xC 24 (.ld false 1 (.t 23)), ⟨[3], none, false, false⟩),
 (xC 25 (.fad 3 (.t 3)), ⟨[3], none, false, false⟩),
 (xC 26 (.ld false 1 (.t 25)), ⟨[3], none, false, false⟩),
 xU 27 (.bld [(zN 0), (zN 0)] [(0, (1, (.t 24))), (1, (1, (.t 26)))]),
 xU 28 (.mv (.t 0)),
 xU 29 (.nck (.t 28)),
 xU 30 (.fad 1 (.t 29)),
 xV 31 (.ld false 1 (.t 30)),
 xU 32 (.mv (.t 6)),
 xU 33 (.mv (.t 7)),
 xU 34 (.iad 9 (.t 31) (.t 32)),
 xU 35 (.fad 6 (.t 34)),
 xU 36 (.iaa 3 1 (.t 35) (.t 33)),
 xV 37 (.ld false 1 (.t 36)),
 (⟨none, none, (.st 2 (.t 4) (.t 27))⟩, ⟨[4], some 4, false, false⟩),
 xU 5 (.mv (.t 37))])
 .ret)))), [(.cell 4 true 2), (.tmp 5)], [], true⟩
theorem hb116 : hasBody Tryz.prog 116 = true := by kernel_rfl
theorem fk116 : FEOK Tryz.prog 116 fe116 := ⟨by kernel_rfl, by kernel_rfl, hb116⟩
end Iso

/- The code of functions, as the runner wants it. -/
namespace Iso
open Go Go.Proofs
/-- (*isohyet/mesh.Mesh).Drop -/
def fe117 : FE := ⟨23, (.seq (.reg [] [xC 4 (.mv (.t 0)),
 xC 5 (.nck (.t 4)),
 xC 6 (.fad 1 (.t 5)),
 xC 7 (.ld false 1 (.t 6)),
 xC 8 (.mv (.t 1)),
 xC 9 (.bld [(zN 0), (zN 0), (zN 0)] [(0, (1, (.k (.lit (.int .i64 (-2)))))), (1, (1, (.k (.lit (.int .i64 (-2)))))), (2, (1, (.k (.lit (.int .i64 (-2))))))]),
 xC 10 (.bld [(zN 0), (zN 0), (zN 0)] [(0, (1, (.k (.lit (.int .i64 (-1)))))), (1, (1, (.k (.lit (.int .i64 (-1)))))), (2, (1, (.k (.lit (.int .i64 (-1))))))]),
 xC 11 (.bld [(zN 0), (zN 0), (zN 0), (zN 0), (zN 0), (zN 0), bF, bF, bF] [(0, (3, (.t 9))), (3, (3, (.t 10)))]),
 xC 12 (.iad 9 (.t 7) (.t 8)),
 ⟨none, none, (.st 9 (.t 12) (.t 11))⟩])
 (.reg [] [xC 13 (.mv (.t 0)),
 xC 14 (.mv (.t 0)),
 xC 15 (.nck (.t 14)),
 xC 16 (.fad 2 (.t 15)),
 xC 17 (.ld false 1 (.t 16)),
 xC 18 (.mv (.t 1)),
 xC 19 (.bsl 1 1 [(zN 0)] [(0, (1, (.t 18)))]),
 xC 20 (.app 1 8 (.t 17) (.t 19)),
 xC 21 (.nck (.t 13)),
 xC 22 (.fad 2 (.t 21)),
 ⟨none, none, (.st 1 (.t 22) (.t 20))⟩])), [], [], false⟩
theorem hb117 : hasBody Tryz.prog 117 = true := by kernel_rfl
theorem fk117 : FEOK Tryz.prog 117 fe117 := ⟨by kernel_rfl, by kernel_rfl, hb117⟩
/-- (*isohyet/mesh.Mesh).All$1 -/
def fe118 : FE := ⟨26, (.seq (.reg [] [xC 5 (.ld false 1 (.t 1)),
 xC 6 (.nck (.t 5)),
 xC 7 (.fad 1 (.t 6)),
 xC 8 (.ld false 1 (.t 7)),
 xC 9 (.len (.t 8)),
 xC 10 (.mv kZ)])
 (.block 0 (.loop (.seq (.reg [] [xC 11 (.bin .lss (.t 10) (.t 9))])
 (.seq (.cond (.t 11) .skip (.exit 0))
 (.seq (.block 1 (.seq (.reg [4] [xC 12 (.mv (.t 10)),
 xC 13 (.iad 9 (.t 8) (.t 10)),
 xC 14 (.ld true 9 (.t 13)),
 xC 4 (.new [(zN 0), (zN 0), (zN 0), (zN 0), (zN 0), (zN 0), bF, bF, bF]),
 xC 3 (.mv (.t 12)),
 ⟨none, none, (.st 9 (.t 4) (.t 14))⟩])
 (.seq (.reg [] [xC 15 (.ld false 1 (.t 1)),
 xC 16 (.mv (.t 3)),
 xC 17 (.call 50 [(.t 15), (.t 16)]),
 xC 18 (.mv (.t 17)),
 ⟨(some 19), (some (18, true)), (.mv (.t 0))⟩,
 ⟨(some 20), (some (18, true)), (.mv (.t 3))⟩,
 ⟨(some 21), (some (18, true)), (.ld true 9 (.t 4))⟩,
 ⟨(some 22), (some (18, true)), (.callv (.t 19) [(.t 20), (.t 21)])⟩,
 ⟨(some 23), (some (18, true)), (.un .not (.t 22))⟩,
 xC 24 (.pick (.t 18) (.t 23) (.k bF))])
 (.cond (.t 24) .ret .skip))))
 (.reg [] [xC 25 (.bin .add (.t 10) (kN 1)),
 xC 10 (.mv (.t 25))]))))))), [], [], false⟩
theorem hb118 : hasBody Tryz.prog 118 = true := by kernel_rfl
theorem fk118 : FEOK Tryz.prog 118 fe118 := ⟨by kernel_rfl, by kernel_rfl, hb118⟩
/-- (*isohyet/mesh.Mesh).Around$1 -/
def fe126 : FE := ⟨46, (.seq (.regd [] [[], [0], [1], [2], [], [3, 4], [5], [6, 0, 1, 2, 3, 4, 5, 6]] [xV 7 (.ld false 1 (.t 1)),
 xU 8 (.nck (.t 7)),
 xU 9 (.fad 3 (.t 8)),
 xV 10 (.ld false 1 (.t 9)),
 xV 11 (.ld false 1 (.t 2)),
 xU 12 (.iad 1 (.t 10) (.t 11)),
 xV 13 (.ld false 1 (.t 12)),
 xU 4 (.mv (.t 13))])
 (.seq (.reg [] [xC 14 (.mv (.t 4)),
 xC 5 (.mv (.t 14))])
 (.block 0 (.loop (.seq (.seq (.reg [] [xC 15 (.mv (.t 5)),
 xC 16 (.bin .geq (.t 15) kZ)])
 (.cond (.t 16) .skip (.exit 0)))
 (.block 1 (.seq (.regd [] [[], [0], [1], [2], [], [3, 4], [5], [], [6, 7], [8, 8, 0, 1, 2, 3, 4, 5, 6, 7, 8]] [xV 17 (.ld false 1 (.t 1)),
 xU 18 (.nck (.t 17)),
 xU 19 (.fad 1 (.t 18)),
 xV 20 (.ld false 1 (.t 19)),
 xU 21 (.mv (.t 5)),
 xU 22 (.iad 9 (.t 20) (.t 21)),
 xV 23 (.ld true 9 (.t 22)),
 xV 24 (.ld false 1 (.t 2)),
 xV 25 (.call 127 [(.t 23), (.t 24)]),
 xU 6 (.mv (.t 25))])
 (.seq (.seq (.reg [] [xC 26 (.mv (.t 0)),
 xC 27 (.mv (.t 5)),
 xC 28 (.mv (.t 6)),
 xC 29 (.callv (.t 26) [(.t 27), (.t 28)]),
 xC 30 (.un .not (.t 29))])
 (.cond (.t 30) .ret .skip))
 (.seq (.reg [] [xC 31 (.ld false 1 (.t 1)),
 xC 32 (.nck (.t 31)),
 xC 33 (.fad 1 (.t 32)),
 xC 34 (.ld false 1 (.t 33)),
 xC 35 (.mv (.t 5)),
 xC 36 (.mv (.t 6)),
 xC 37 (.bin .add (.t 36) (kN 1)),
 xC 38 (.bin .rem (.t 37) (kN 3)),
 xC 39 (.iad 9 (.t 34) (.t 35)),
 xC 40 (.fad 3 (.t 39)),
 xC 41 (.iaa 3 1 (.t 40) (.t 38)),
 xC 42 (.ld false 1 (.t 41)),
 xC 5 (.mv (.t 42))])
 (.seq (.reg [] [xC 43 (.mv (.t 5)),
 xC 44 (.mv (.t 4)),
 xC 45 (.bin .eql (.t 43) (.t 44))])
 (.cond (.t 45) .ret .skip))))))))))), [], [], false⟩
theorem hb126 : hasBody Tryz.prog 126 = true := by kernel_rfl
theorem fk126 : FEOK Tryz.prog 126 fe126 := ⟨by kernel_rfl, by kernel_rfl, hb126⟩
/-- (isohyet/mesh.Tri).place -/
def fe127 : FE := ⟨9, (.seq (.reg [2] [xC 2 (.box (.t 0)),
 xC 4 (.mv kZ)])
 (.seq (.reg [] [xC 5 (.fad 0 (.t 2)),
 xC 6 (.sla 3 1 (.t 5) none none),
 xC 7 (.mv (.t 1)),
 xC 8 (.call 54 [(.t 6), (.t 7)]),
 xC 4 (.mv (.t 8))])
 .ret)), [(.tmp 4)], [], true⟩
theorem hb127 : hasBody Tryz.prog 127 = true := by kernel_rfl
theorem fk127 : FEOK Tryz.prog 127 fe127 := ⟨by kernel_rfl, by kernel_rfl, hb127⟩
/-- isohyet/wide.Sign -/
def fe128 : FE := ⟨10, (.seq (.reg [1] [xC 1 (.box (.t 0)),
 xC 2 (.mv kZ)])
 (.seq (.block 0 (.seq (.reg [] [xC 4 (.ld true 2 (.t 1)),
 xC 5 (.call 147 [(.t 4)]),
 xC 3 (.mv (.t 5))])
 (.cond (.t 3) (.seq (.reg [] [xC 2 (.mv (.k (.lit (.int .i64 (-1)))))])
 .ret) (.seq (.reg [] [xC 7 (.ld true 2 (.t 1)),
 xC 8 (.bld [(.lit (.int .u64 0)), (.lit (.int .u64 0))] []),
 xC 9 (.eqc false [true, true] (.t 7) (.t 8)),
 xC 6 (.mv (.t 9))])
 (.cond (.t 6) (.seq (.reg [] [xC 2 (.mv kZ)])
 .ret) .skip)))))
 (.seq (.reg [] [xC 2 (.mv (kN 1))])
 .ret))), [(.tmp 2)], [], true⟩
theorem hb128 : hasBody Tryz.prog 128 = true := by kernel_rfl
theorem fk128 : FEOK Tryz.prog 128 fe128 := ⟨by kernel_rfl, by kernel_rfl, hb128⟩
/-- isohyet/pred.On -/
def fe129 : FE := ⟨52, (.seq (.reg [3, 4, 5] [xC 3 (.box (.t 0)),
 xC 4 (.box (.t 1)),
 xC 5 (.box (.t 2)),
 xC 6 (.mv (.k bF))])
 (.seq (.reg [] [xC 7 (.ld true 2 (.t 4)),
 xC 8 (.ld true 2 (.t 5)),
 xC 9 (.ld true 2 (.t 3)),
 xC 10 (.call 89 [(.t 7), (.t 8), (.t 9)]),
 xC 11 (.bin .eql (.t 10) kZ),
 xC 12 (.mv (.t 11)),
 ⟨(some 13), (some (12, true)), (.fad 0 (.t 4))⟩,
 ⟨(some 14), (some (12, true)), (.ld false 1 (.t 13))⟩,
 ⟨(some 15), (some (12, true)), (.fad 0 (.t 5))⟩,
 ⟨(some 16), (some (12, true)), (.ld false 1 (.t 15))⟩,
 ⟨(some 17), (some (12, true)), (.mnx false [(.t 14), (.t 16)])⟩,
 ⟨(some 18), (some (12, true)), (.fad 0 (.t 3))⟩,
 ⟨(some 19), (some (12, true)), (.ld false 1 (.t 18))⟩,
 ⟨(some 20), (some (12, true)), (.bin .leq (.t 17) (.t 19))⟩,
 xC 21 (.pick (.t 12) (.t 20) (.k bF)),
 xC 22 (.mv (.t 21)),
 ⟨(some 23), (some (22, true)), (.fad 0 (.t 3))⟩,
 ⟨(some 24), (some (22, true)), (.ld false 1 (.t 23))⟩,
 ⟨(some 25), (some (22, true)), (.fad 0 (.t 4))⟩,
 ⟨(some 26), (some (22, true)), (.ld false 1 (.t 25))⟩,
 ⟨(some 27), (some (22, true)), (.fad 0 (.t 5))⟩,
 ⟨(some 28), (some (22, true)), (.ld false 1 (.t 27))⟩,
 ⟨(some 29), (some (22, true)), (.mnx true [(.t 26), (.t 28)])⟩,
 ⟨(some 30), (some (22, true)), (.bin .leq (.t 24) (.t 29))⟩,
 xC 31 (.pick (.t 22) (.t 30) (.k bF)),
 xC 32 (.mv (.t 31)),
 ⟨(some 33), (some (32, true)), (.fad 1 (.t 4))⟩,
 ⟨(some 34), (some (32, true)), (.ld false 1 (.t 33))⟩,
 ⟨(some 35), (some (32, true)), (.fad 1 (.t 5))⟩,
 ⟨(some 36), (some (32, true)), (.ld false 1 (.t 35))⟩,
 ⟨(some 37), (some (32, true)), (.mnx false [(.t 34), (.t 36)])⟩,
 ⟨(some 38), (some (32, true)), (.fad 1 (.t 3))⟩,
 ⟨(some 39), (some (32, true)), (.ld false 1 (.t 38))⟩,
 ⟨(some 40), (some (32, true)), (.bin .leq (.t 37) (.t 39))⟩,
 xC 41 (.pick (.t 32) (.t 40) (.k bF)),
 xC 42 (.mv (.t 41)),
 ⟨(some 43), (some (42, true)), (.fad 1 (.t 3))⟩,
 ⟨(some 44), (some (42, true)), (.ld false 1 (.t 43))⟩,
 ⟨(some 45), (some (42, true)), (.fad 1 (.t 4))⟩,
 ⟨(some 46), (some (42, true)), (.ld false 1 (.t 45))⟩,
 ⟨(some 47), (some (42, true)), (.fad 1 (.t 5))⟩,
 ⟨(some 48), (some (42, true)), (.ld false 1 (.t 47))⟩,
 ⟨(some 49), (some (42, true)), (.mnx true [(.t 46), (.t 48)])⟩,
 ⟨(some 50), (some (42, true)), (.bin .leq (.t 44) (.t 49))⟩,
 xC 51 (.pick (.t 42) (.t 50) (.k bF)),
 xC 6 (.mv (.t 51))])
 .ret)), [(.tmp 6)], [], true⟩
theorem hb129 : hasBody Tryz.prog 129 = true := by kernel_rfl
theorem fk129 : FEOK Tryz.prog 129 fe129 := ⟨by kernel_rfl, by kernel_rfl, hb129⟩
/-- isohyet/pred.small -/
def fe130 : FE := ⟨18, (.seq (.reg [] [xC 2 (.mv (.k bF))])
 (.seq (.seq (.reg [] [xC 5 (.mv (.t 0)),
 xC 6 (.len (.t 5)),
 xC 7 (.mv kZ)])
 (.block 0 (.loop (.seq (.reg [] [xC 8 (.bin .lss (.t 7) (.t 6))])
 (.seq (.cond (.t 8) .skip (.exit 0))
 (.seq (.block 1 (.seq (.reg [] [xC 9 (.iad 1 (.t 5) (.t 7)),
 xC 10 (.ld false 1 (.t 9)),
 xC 4 (.mv (.t 10))])
 (.seq (.reg [] [xC 11 (.mv (.t 4)),
 xC 12 (.bin .lss (.t 11) (.k (.lit (.int .i64 (-1073741824))))),
 xC 13 (.mv (.t 12)),
 ⟨(some 14), (some (13, false)), (.mv (.t 4))⟩,
 ⟨(some 15), (some (13, false)), (.bin .gtr (.t 14) (kN 1073741824))⟩,
 xC 16 (.pick (.t 13) (.k bT) (.t 15))])
 (.cond (.t 16) (.seq (.reg [] [xC 2 (.mv (.k bF))])
 .ret) .skip))))
 (.reg [] [xC 17 (.bin .add (.t 7) (kN 1)),
 xC 7 (.mv (.t 17))])))))))
 (.seq (.reg [] [xC 2 (.mv (.k bT))])
 .ret))), [(.tmp 2)], [], true⟩
theorem hb130 : hasBody Tryz.prog 130 = true := by kernel_rfl
theorem fk130 : FEOK Tryz.prog 130 fe130 := ⟨by kernel_rfl, by kernel_rfl, hb130⟩
/-- isohyet/pred.quick -/
def fe131 : FE := ⟨81, (.seq (.reg [] [xC 12 (.mv kZ)])
 (.seq (.reg [13] [xC 20 (.mv (.t 2)),
 xC 21 (.mv (.t 3)),
 xC 22 (.mv (.t 4)),
 xC 23 (.mv (.t 5)),
 xC 24 (.call 134 [(.t 20), (.t 21), (.t 22), (.t 23)]),
 xC 25 (.mv (.t 0)),
 xC 26 (.mv (.t 0)),
 xC 27 (.bin .mul (.t 25) (.t 26)),
 xC 28 (.mv (.t 1)),
 xC 29 (.mv (.t 1)),
 xC 30 (.bin .mul (.t 28) (.t 29)),
 xC 31 (.bin .add (.t 27) (.t 30)),
 xC 32 (.call 162 [(.t 24), (.t 31)]),
 xC 19 (.mv (.t 32)),
 xC 33 (.ext (.t 19) 0),
 xC 34 (.ext (.t 19) 1),
 xC 13 (.new [(.lit (.int .u64 0)), (.lit (.int .u64 0))]),
 ⟨none, none, (.st 2 (.t 13) (.t 33))⟩,
 xC 14 (.mv (.t 34))])
 (.seq (.reg [15] [xC 36 (.mv (.t 4)),
 xC 37 (.mv (.t 5)),
 xC 38 (.mv (.t 0)),
 xC 39 (.mv (.t 1)),
 xC 40 (.call 134 [(.t 36), (.t 37), (.t 38), (.t 39)]),
 xC 41 (.mv (.t 2)),
 xC 42 (.mv (.t 2)),
 xC 43 (.bin .mul (.t 41) (.t 42)),
 xC 44 (.mv (.t 3)),
 xC 45 (.mv (.t 3)),
 xC 46 (.bin .mul (.t 44) (.t 45)),
 xC 47 (.bin .add (.t 43) (.t 46)),
 xC 48 (.call 162 [(.t 40), (.t 47)]),
 xC 35 (.mv (.t 48)),
 xC 49 (.ext (.t 35) 0),
 xC 50 (.ext (.t 35) 1),
 xC 15 (.new [(.lit (.int .u64 0)), (.lit (.int .u64 0))]),
 ⟨none, none, (.st 2 (.t 15) (.t 49))⟩,
 xC 16 (.mv (.t 50))])
 (.seq (.reg [17] [xC 52 (.mv (.t 0)),
 xC 53 (.mv (.t 1)),
 xC 54 (.mv (.t 2)),
 xC 55 (.mv (.t 3)),
 xC 56 (.call 134 [(.t 52), (.t 53), (.t 54), (.t 55)]),
 xC 57 (.mv (.t 4)),
 xC 58 (.mv (.t 4)),
 xC 59 (.bin .mul (.t 57) (.t 58)),
 xC 60 (.mv (.t 5)),
 xC 61 (.mv (.t 5)),
 xC 62 (.bin .mul (.t 60) (.t 61)),
 xC 63 (.bin .add (.t 59) (.t 62)),
 xC 64 (.call 162 [(.t 56), (.t 63)]),
 xC 51 (.mv (.t 64)),
 xC 65 (.ext (.t 51) 0),
 xC 66 (.ext (.t 51) 1),
 xC 17 (.new [(.lit (.int .u64 0)), (.lit (.int .u64 0))]),
 ⟨none, none, (.st 2 (.t 17) (.t 65))⟩,
 xC 18 (.mv (.t 66))])
 (.seq (.reg [] [xC 68 (.ld true 2 (.t 13)),
 xC 69 (.ld true 2 (.t 15)),
 xC 70 (.call 163 [(.t 68), (.t 69)]),
 xC 67 (.mv (.t 70)),
 xC 71 (.ext (.t 67) 0),
 xC 72 (.ext (.t 67) 1),
 ⟨none, none, (.st 2 (.t 13) (.t 71))⟩])
 (.seq (.reg [] [xC 74 (.ld true 2 (.t 13)),
 xC 75 (.ld true 2 (.t 17)),
 xC 76 (.call 163 [(.t 74), (.t 75)]),
 xC 73 (.mv (.t 76)),
 xC 77 (.ext (.t 73) 0),
 xC 78 (.ext (.t 73) 1),
 ⟨none, none, (.st 2 (.t 13) (.t 77))⟩])
 (.seq (.reg [] [xC 79 (.ld true 2 (.t 13)),
 xC 80 (.call 128 [(.t 79)]),
 xC 12 (.mv (.t 80))])
 .ret))))))), [(.tmp 12)], [], true⟩
theorem hb131 : hasBody Tryz.prog 131 = true := by kernel_rfl
theorem fk131 : FEOK Tryz.prog 131 fe131 := ⟨by kernel_rfl, by kernel_rfl, hb131⟩
/-- isohyet/pred.Circle$1 -/
def fe132 : FE := ⟨14, (.seq (.reg [4] [xC 4 (.new [bF, sZ])])
 (.seq (.reg [] [xC 5 (.mv (.t 0)),
 xC 6 (.mv (.t 0)),
 xC 7 (.call 95 [(.t 5), (.t 6)]),
 xC 8 (.call 94 [(.t 7)]),
 xC 9 (.mv (.t 1)),
 xC 10 (.mv (.t 1)),
 xC 11 (.call 95 [(.t 9), (.t 10)]),
 xC 12 (.call 94 [(.t 11)]),
 xC 13 (.call 64 [(.t 8), (.t 12)]),
 ⟨none, none, (.st 2 (.t 4) (.t 13))⟩])
 .ret)), [(.cell 4 true 2)], [], true⟩
theorem hb132 : hasBody Tryz.prog 132 = true := by kernel_rfl
theorem fk132 : FEOK Tryz.prog 132 fe132 := ⟨by kernel_rfl, by kernel_rfl, hb132⟩
/-- isohyet/pred.Circle$2 -/
def fe133 : FE := ⟨15, (.seq (.reg [8] [xC 8 (.new [bF, sZ])])
 (.seq (.reg [] [xC 9 (.mv (.t 0)),
 xC 10 (.mv (.t 1)),
 xC 11 (.mv (.t 2)),
 xC 12 (.mv (.t 3)),
 xC 13 (.call 134 [(.t 9), (.t 10), (.t 11), (.t 12)]),
 xC 14 (.call 94 [(.t 13)]),
 ⟨none, none, (.st 2 (.t 8) (.t 14))⟩])
 .ret)), [(.cell 8 true 2)], [], true⟩
theorem hb133 : hasBody Tryz.prog 133 = true := by kernel_rfl
theorem fk133 : FEOK Tryz.prog 133 fe133 := ⟨by kernel_rfl, by kernel_rfl, hb133⟩
/-- isohyet/wide.Det -/
def fe134 : FE := ⟨22, (.seq (.reg [8] [xC 8 (.new [(.lit (.int .u64 0)), (.lit (.int .u64 0))])])
 (.seq (.reg [9] [xC 12 (.mv (.t 0)),
 xC 13 (.mv (.t 3)),
 xC 14 (.call 95 [(.t 12), (.t 13)]),
 xC 15 (.mv (.t 1)),
 xC 16 (.mv (.t 2)),
 xC 17 (.call 95 [(.t 15), (.t 16)]),
 xC 18 (.call 164 [(.t 14), (.t 17)]),
 xC 11 (.mv (.t 18)),
 xC 19 (.ext (.t 11) 0),
 xC 20 (.ext (.t 11) 1),
 xC 9 (.new [(.lit (.int .u64 0)), (.lit (.int .u64 0))]),
 ⟨none, none, (.st 2 (.t 9) (.t 19))⟩,
 xC 10 (.mv (.t 20))])
 (.seq (.reg [] [xC 21 (.ld true 2 (.t 9)),
 ⟨none, none, (.st 2 (.t 8) (.t 21))⟩])
 .ret))), [(.cell 8 true 2)], [], true⟩
theorem hb134 : hasBody Tryz.prog 134 = true := by kernel_rfl
theorem fk134 : FEOK Tryz.prog 134 fe134 := ⟨by kernel_rfl, by kernel_rfl, hb134⟩
/-- isohyet/num.Sum -/
def fe135 : FE := ⟨17, (.seq (.reg [2] [xC 2 (.new [bF, sZ])])
 (.seq (.reg [3] [xC 3 (.new [bF, sZ])])
 (.seq (.seq (.reg [] [xC 6 (.mv (.t 0)),
 xC 7 (.len (.t 6)),
 xC 8 (.mv kZ)])
 (.block 0 (.loop (.seq (.reg [] [xC 9 (.bin .lss (.t 8) (.t 7))])
 (.seq (.cond (.t 9) .skip (.exit 0))
 (.seq (.block 1 (.seq (.reg [5] [xC 10 (.iad 2 (.t 6) (.t 8)),
 xC 11 (.ld true 2 (.t 10)),
 xC 5 (.new [bF, sZ]),
 ⟨none, none, (.st 2 (.t 5) (.t 11))⟩])
 (.reg [] [xC 12 (.ld true 2 (.t 3)),
 xC 13 (.ld true 2 (.t 5)),
 xC 14 (.call 64 [(.t 12), (.t 13)]),
 ⟨none, none, (.st 2 (.t 3) (.t 14))⟩])))
 (.reg [] [xC 15 (.bin .add (.t 8) (kN 1)),
 xC 8 (.mv (.t 15))])))))))
 (.seq (.reg [] [xC 16 (.ld true 2 (.t 3)),
 ⟨none, none, (.st 2 (.t 2) (.t 16))⟩])
 .ret)))), [(.cell 2 true 2)], [], true⟩
theorem hb135 : hasBody Tryz.prog 135 = true := by kernel_rfl
theorem fk135 : FEOK Tryz.prog 135 fe135 := ⟨by kernel_rfl, by kernel_rfl, hb135⟩
/-- slices.insertionSortOrdered[int] -/
def fe136 : FE := ⟨49, (.seq (.reg [] [xC 8 (.mv (.t 1)),
 xC 9 (.bin .add (.t 8) (kN 1)),
 xC 6 (.mv (.t 9))])
 (.block 0 (.loop (.seq (.seq (.reg [] [xC 10 (.mv (.t 6)),
 xC 11 (.mv (.t 2)),
 xC 12 (.bin .lss (.t 10) (.t 11))])
 (.cond (.t 12) .skip (.exit 0)))
 (.seq (.block 1 (.seq (.reg [] [xC 15 (.mv (.t 6)),
 xC 7 (.mv (.t 15))])
 (.block 2 (.loop (.seq (.seq (.regd [] [[], [], [0, 1], [2], [3], [3], [4, 5, 3], [6, 3], [3], [3], [9, 3], [8, 10, 3], [11, 3], [7, 12, 3, 3], [3, 13]] [xU 16 (.mv (.t 7)),
 xU 17 (.mv (.t 1)),
 xU 18 (.bin .gtr (.t 16) (.t 17)),
 xU 19 (.mv (.t 18)),
 (⟨(some 20), (some (19, true)), (.mv (.t 0))⟩, ⟨[], none, false, false⟩),
 (⟨(some 21), (some (19, true)), (.mv (.t 7))⟩, ⟨[], none, false, false⟩),
 (⟨(some 22), (some (19, true)), (.iad 1 (.t 20) (.t 21))⟩, ⟨[], none, false, false⟩),
 (⟨(some 23), (some (19, true)), (.ld false 1 (.t 22))⟩, ⟨[], none, true, false⟩),
 (⟨(some 24), (some (19, true)), (.mv (.t 0))⟩, ⟨[], none, false, false⟩),
 (⟨(some 25), (some (19, true)), (.mv (.t 7))⟩, ⟨[], none, false, false⟩),
 (⟨(some 26), (some (19, true)), (.bin .sub (.t 25) (kN 1))⟩, ⟨[], none, false, false⟩),
 (⟨(some 27), (some (19, true)), (.iad 1 (.t 24) (.t 26))⟩, ⟨[], none, false, false⟩),
 (⟨(some 28), (some (19, true)), (.ld false 1 (.t 27))⟩, ⟨[], none, true, false⟩),
 (⟨(some 29), (some (19, true)), (.call 142 [(.t 23), (.t 28)])⟩, ⟨[], none, true, false⟩),
 xU 30 (.pick (.t 19) (.t 29) (.k bF))])
 (.cond (.t 30) .skip (.exit 2)))
 (.seq (.block 3 (.regd [] [[], [], [], [], [3], [], [], [6], [5, 7], [8], [], [], [10, 11], [12], [0, 1, 0, 1, 5, 6, 7, 8, 9, 13], [14, 9, 0, 1, 5, 6, 7, 8, 9, 13], [2, 4, 0, 1, 2, 3, 4, 5, 6, 7, 8, 9, 10, 11, 12, 13, 14, 15], [16, 13, 15, 0, 1, 2, 3, 4, 5, 6, 7, 8, 9, 10, 11, 12, 13, 14, 15]] [xU 33 (.mv (.t 0)),
 xU 34 (.mv (.t 7)),
 xU 35 (.mv (.t 0)),
 xU 36 (.mv (.t 7)),
 xU 37 (.bin .sub (.t 36) (kN 1)),
 xU 38 (.mv (.t 0)),
 xU 39 (.mv (.t 7)),
 xU 40 (.bin .sub (.t 39) (kN 1)),
 xU 41 (.iad 1 (.t 38) (.t 40)),
 xV 42 (.ld false 1 (.t 41)),
 xU 43 (.mv (.t 0)),
 xU 44 (.mv (.t 7)),
 xU 45 (.iad 1 (.t 43) (.t 44)),
 xV 46 (.ld false 1 (.t 45)),
 xU 47 (.iad 1 (.t 33) (.t 34)),
 (⟨none, none, (.st 1 (.t 47) (.t 42))⟩, ⟨[], none, true, true⟩),
 xU 48 (.iad 1 (.t 35) (.t 37)),
 (⟨none, none, (.st 1 (.t 48) (.t 46))⟩, ⟨[], none, true, true⟩)]))
 (.reg [] [xC 31 (.mv (.t 7)),
 xC 32 (.bin .sub (.t 31) (kN 1)),
 xC 7 (.mv (.t 32))])))))))
 (.reg [] [xC 13 (.mv (.t 6)),
 xC 14 (.bin .add (.t 13) (kN 1)),
 xC 6 (.mv (.t 14))])))))), [], [], false⟩
theorem hb136 : hasBody Tryz.prog 136 = true := by kernel_rfl
theorem fk136 : FEOK Tryz.prog 136 fe136 := ⟨by kernel_rfl, by kernel_rfl, hb136⟩
/-- cmp.Less[int] -/
def fe142 : FE := ⟨17, (.seq (.reg [] [xC 4 (.mv (.k bF))])
 (.seq (.reg [] [xC 5 (.mv (.t 0)),
 xC 6 (.call 170 [(.t 5)]),
 xC 7 (.mv (.t 6)),
 ⟨(some 8), (some (7, true)), (.mv (.t 1))⟩,
 ⟨(some 9), (some (7, true)), (.call 170 [(.t 8)])⟩,
 ⟨(some 10), (some (7, true)), (.un .not (.t 9))⟩,
 xC 11 (.pick (.t 7) (.t 10) (.k bF)),
 xC 12 (.mv (.t 11)),
 ⟨(some 13), (some (12, false)), (.mv (.t 0))⟩,
 ⟨(some 14), (some (12, false)), (.mv (.t 1))⟩,
 ⟨(some 15), (some (12, false)), (.bin .lss (.t 13) (.t 14))⟩,
 xC 16 (.pick (.t 12) (.k bT) (.t 15)),
 xC 4 (.mv (.t 16))])
 .ret)), [(.tmp 4)], [], true⟩
theorem hb142 : hasBody Tryz.prog 142 = true := by kernel_rfl
theorem fk142 : FEOK Tryz.prog 142 fe142 := ⟨by kernel_rfl, by kernel_rfl, hb142⟩
/-- math/bits.Len32 -/
def fe145 : FE := ⟨19, (.seq (.reg [] [xC 2 (.mv kZ)])
 (.seq (.seq (.reg [] [xC 3 (.mv (.t 0)),
 xC 4 (.bin .geq (.t 3) (.k (.lit (.int .u32 65536))))])
 (.cond (.t 4) (.seq (.reg [] [xC 5 (.mv (.t 0)),
 xC 6 (.bin .shr (.t 5) (.k (.lit (.int .u64 16)))),
 xC 0 (.mv (.t 6))])
 (.reg [] [xC 2 (.mv (kN 16))])) .skip))
 (.seq (.seq (.reg [] [xC 7 (.mv (.t 0)),
 xC 8 (.bin .geq (.t 7) (.k (.lit (.int .u32 256))))])
 (.cond (.t 8) (.seq (.reg [] [xC 9 (.mv (.t 0)),
 xC 10 (.bin .shr (.t 9) (.k (.lit (.int .u64 8)))),
 xC 0 (.mv (.t 10))])
 (.reg [] [xC 11 (.mv (.t 2)),
 xC 12 (.bin .add (.t 11) (kN 8)),
 xC 2 (.mv (.t 12))])) .skip))
 (.seq (.reg [] [xC 13 (.mv (.t 2)),
 xC 14 (.mv (.t 0)),
 xC 15 (.cv .u8 (.t 14)),
 xC 16 (.ixs [0, 1, 2, 2, 3, 3, 3, 3, 4, 4, 4, 4, 4, 4, 4, 4, 5, 5, 5, 5, 5, 5, 5, 5, 5, 5, 5, 5, 5, 5, 5, 5, 6, 6, 6, 6, 6, 6, 6, 6, 6, 6, 6, 6, 6, 6, 6, 6, 6, 6, 6, 6, 6, 6, 6, 6, 6, 6, 6, 6, 6, 6, 6, 6, 7, 7, 7, 7, 7, 7, 7, 7, 7, 7, 7, 7, 7, 7, 7, 7, 7, 7, 7, 7, 7, 7, 7, 7, 7, 7, 7, 7, 7, 7, 7, 7, 7, 7, 7, 7, 7, 7, 7, 7, 7, 7, 7, 7, 7, 7, 7, 7, 7, 7, 7, 7, 7, 7, 7, 7, 7, 7, 7, 7, 7, 7, 7, 7, 8, 8, 8, 8, 8, 8, 8, 8, 8, 8, 8, 8, 8, 8, 8, 8, 8, 8, 8, 8, 8, 8, 8, 8, 8, 8, 8, 8, 8, 8, 8, 8, 8, 8, 8, 8, 8, 8, 8, 8, 8, 8, 8, 8, 8, 8, 8, 8, 8, 8, 8, 8, 8, 8, 8, 8, 8, 8, 8, 8, 8, 8, 8, 8, 8, 8, 8, 8, 8, 8, 8, 8, 8, 8, 8, 8, 8, 8, 8, 8, 8, 8, 8, 8, 8, 8, 8, 8, 8, 8, 8, 8, 8, 8, 8, 8, 8, 8, 8, 8, 8, 8, 8, 8, 8, 8, 8, 8, 8, 8, 8, 8, 8, 8, 8, 8, 8, 8, 8, 8, 8, 8, 8, 8, 8, 8, 8, 8] (.t 15)),
 xC 17 (.cv .i64 (.t 16)),
 xC 18 (.bin .add (.t 13) (.t 17)),
 xC 2 (.mv (.t 18))])
 .ret)))), [(.tmp 2)], [], true⟩
theorem hb145 : hasBody Tryz.prog 145 = true := by kernel_rfl
theorem fk145 : FEOK Tryz.prog 145 fe145 := ⟨by kernel_rfl, by kernel_rfl, hb145⟩
/-- math/bits.Len64 -/
def fe146 : FE := ⟨25, (.seq (.reg [] [xC 2 (.mv kZ)])
 (.seq (.seq (.reg [] [xC 3 (.mv (.t 0)),
 xC 4 (.bin .geq (.t 3) (.k (.lit (.int .u64 4294967296))))])
 (.cond (.t 4) (.seq (.reg [] [xC 5 (.mv (.t 0)),
 xC 6 (.bin .shr (.t 5) (.k (.lit (.int .u64 32)))),
 xC 0 (.mv (.t 6))])
 (.reg [] [xC 2 (.mv (kN 32))])) .skip))
 (.seq (.seq (.reg [] [xC 7 (.mv (.t 0)),
 xC 8 (.bin .geq (.t 7) (.k (.lit (.int .u64 65536))))])
 (.cond (.t 8) (.seq (.reg [] [xC 9 (.mv (.t 0)),
 xC 10 (.bin .shr (.t 9) (.k (.lit (.int .u64 16)))),
 xC 0 (.mv (.t 10))])
 (.reg [] [xC 11 (.mv (.t 2)),
 xC 12 (.bin .add (.t 11) (kN 16)),
 xC 2 (.mv (.t 12))])) .skip))
 (.seq (.seq (.reg [] [xC 13 (.mv (.t 0)),
 xC 14 (.bin .geq (.t 13) (.k (.lit (.int .u64 256))))])
 (.cond (.t 14) (.seq (.reg [] [xC 15 (.mv (.t 0)),
 xC 16 (.bin .shr (.t 15) (.k (.lit (.int .u64 8)))),
 xC 0 (.mv (.t 16))])
 (.reg [] [xC 17 (.mv (.t 2)),
 xC 18 (.bin .add (.t 17) (kN 8)),
 xC 2 (.mv (.t 18))])) .skip))
 (.seq (.reg [] [xC 19 (.mv (.t 2)),
 xC 20 (.mv (.t 0)),
 xC 21 (.cv .u8 (.t 20)),
 xC 22 (.ixs [0, 1, 2, 2, 3, 3, 3, 3, 4, 4, 4, 4, 4, 4, 4, 4, 5, 5, 5, 5, 5, 5, 5, 5, 5, 5, 5, 5, 5, 5, 5, 5, 6, 6, 6, 6, 6, 6, 6, 6, 6, 6, 6, 6, 6, 6, 6, 6, 6, 6, 6, 6, 6, 6, 6, 6, 6, 6, 6, 6, 6, 6, 6, 6, 7, 7, 7, 7, 7, 7, 7, 7, 7, 7, 7, 7, 7, 7, 7, 7, 7, 7, 7, 7, 7, 7, 7, 7, 7, 7, 7, 7, 7, 7, 7, 7, 7, 7, 7, 7, 7, 7, 7, 7, 7, 7, 7, 7, 7, 7, 7, 7, 7, 7, 7, 7, 7, 7, 7, 7, 7, 7, 7, 7, 7, 7, 7, 7, 8, 8, 8, 8, 8, 8, 8, 8, 8, 8, 8, 8, 8, 8, 8, 8, 8, 8, 8, 8, 8, 8, 8, 8, 8, 8, 8, 8, 8, 8, 8, 8, 8, 8, 8, 8, 8, 8, 8, 8, 8, 8, 8, 8, 8, 8, 8, 8, 8, 8, 8, 8, 8, 8, 8, 8, 8, 8, 8, 8, 8, 8, 8, 8, 8, 8, 8, 8, 8, 8, 8, 8, 8, 8, 8, 8, 8, 8, 8, 8, 8, 8, 8, 8, 8, 8, 8, 8, 8, 8, 8, 8, 8, 8, 8, 8, 8, 8, 8, 8, 8, 8, 8, 8, 8, 8, 8, 8, 8, 8, 8, 8, 8, 8, 8, 8, 8, 8, 8, 8, 8, 8, 8, 8, 8, 8, 8, 8] (.t 21)),
 xC 23 (.cv .i64 (.t 22)),
 xC 24 (.bin .add (.t 19) (.t 23)),
 xC 2 (.mv (.t 24))])
 .ret))))), [(.tmp 2)], [], true⟩
theorem hb146 : hasBody Tryz.prog 146 = true := by kernel_rfl
theorem fk146 : FEOK Tryz.prog 146 fe146 := ⟨by kernel_rfl, by kernel_rfl, hb146⟩
/-- isohyet/wide.minus -/
def fe147 : FE := ⟨7, (.seq (.reg [1] [xC 1 (.box (.t 0)),
 xC 2 (.mv (.k bF))])
 (.seq (.reg [] [xC 3 (.fad 0 (.t 1)),
 xC 4 (.ld false 1 (.t 3)),
 xC 5 (.bin .shr (.t 4) (.k (.lit (.int .u64 63)))),
 xC 6 (.bin .eql (.t 5) (.k (.lit (.int .u64 1)))),
 xC 2 (.mv (.t 6))])
 .ret)), [(.tmp 2)], [], true⟩
theorem hb147 : hasBody Tryz.prog 147 = true := by kernel_rfl
theorem fk147 : FEOK Tryz.prog 147 fe147 := ⟨by kernel_rfl, by kernel_rfl, hb147⟩
/-- isohyet/wide.turn -/
def fe148 : FE := ⟨25, (.seq (.reg [1, 2] [xC 1 (.box (.t 0)),
 xC 2 (.new [(.lit (.int .u64 0)), (.lit (.int .u64 0))])])
 (.seq (.reg [] [xC 8 (.fad 1 (.t 1)),
 xC 9 (.ld false 1 (.t 8)),
 xC 10 (.un .xor (.t 9)),
 xC 11 (.adc (.t 10) (.k (.lit (.int .u64 1))) (.k (.lit (.int .u64 0)))),
 xC 7 (.mv (.t 11)),
 xC 12 (.ext (.t 7) 0),
 xC 13 (.ext (.t 7) 1),
 xC 3 (.mv (.t 12)),
 xC 4 (.mv (.t 13))])
 (.seq (.reg [] [xC 15 (.fad 0 (.t 1)),
 xC 16 (.ld false 1 (.t 15)),
 xC 17 (.un .xor (.t 16)),
 xC 18 (.mv (.t 4)),
 xC 19 (.adc (.t 17) (.k (.lit (.int .u64 0))) (.t 18)),
 xC 14 (.mv (.t 19)),
 xC 20 (.ext (.t 14) 0),
 xC 21 (.ext (.t 14) 1),
 xC 5 (.mv (.t 20)),
 xC 6 (.mv (.t 21))])
 (.seq (.reg [] [xC 22 (.mv (.t 5)),
 xC 23 (.mv (.t 3)),
 xC 24 (.bld [(.lit (.int .u64 0)), (.lit (.int .u64 0))] [(0, (1, (.t 22))), (1, (1, (.t 23)))]),
 ⟨none, none, (.st 2 (.t 2) (.t 24))⟩])
 .ret)))), [(.cell 2 true 2)], [], true⟩
theorem hb148 : hasBody Tryz.prog 148 = true := by kernel_rfl
theorem fk148 : FEOK Tryz.prog 148 fe148 := ⟨by kernel_rfl, by kernel_rfl, hb148⟩
/-- isohyet/wide.abs -/
def fe149 : FE := ⟨10, (.seq (.reg [] [xC 2 (.mv (.k (.lit (.int .u64 0))))])
 (.seq (.seq (.reg [] [xC 3 (.mv (.t 0)),
 xC 4 (.bin .lss (.t 3) kZ)])
 (.cond (.t 4) (.seq (.reg [] [xC 5 (.mv (.t 0)),
 xC 6 (.cv .u64 (.t 5)),
 xC 7 (.un .neg (.t 6)),
 xC 2 (.mv (.t 7))])
 .ret) .skip))
 (.seq (.reg [] [xC 8 (.mv (.t 0)),
 xC 9 (.cv .u64 (.t 8)),
 xC 2 (.mv (.t 9))])
 .ret))), [(.tmp 2)], [], true⟩
theorem hb149 : hasBody Tryz.prog 149 = true := by kernel_rfl
theorem fk149 : FEOK Tryz.prog 149 fe149 := ⟨by kernel_rfl, by kernel_rfl, hb149⟩
/-- isohyet/mag.word -/
def fe150 : FE := ⟨35, (.seq (.reg [] [xC 4 (.mv (.k sZ)),
 xC 5 (.mv (.k (.lit (.int .u64 0))))])
 (.seq (.reg [] [xC 9 (.mv (.t 0)),
 xC 10 (.len (.t 9)),
 xC 11 (.mks 1 8 [(.lit (.int .u64 0))] (.t 10) (.t 10)),
 xC 6 (.mv (.t 11))])
 (.seq (.reg [] [xC 7 (.mv (.k (.lit (.int .u64 0))))])
 (.seq (.seq (.reg [] [xC 12 (.mv (.t 0)),
 xC 13 (.len (.t 12)),
 xC 14 (.bin .sub (.t 13) (kN 1)),
 xC 8 (.mv (.t 14))])
 (.block 0 (.loop (.seq (.seq (.reg [] [xC 15 (.mv (.t 8)),
 xC 16 (.bin .geq (.t 15) kZ)])
 (.cond (.t 16) .skip (.exit 0)))
 (.seq (.block 1 (.reg [] [xC 20 (.mv (.t 6)),
 xC 21 (.mv (.t 8)),
 xC 22 (.mv (.t 7)),
 xC 23 (.mv (.t 0)),
 xC 24 (.mv (.t 8)),
 xC 25 (.iad 1 (.t 23) (.t 24)),
 xC 26 (.ld false 1 (.t 25)),
 xC 27 (.mv (.t 1)),
 xC 28 (.call 171 [(.t 22), (.t 26), (.t 27)]),
 xC 19 (.mv (.t 28)),
 xC 29 (.ext (.t 19) 0),
 xC 30 (.ext (.t 19) 1),
 xC 31 (.iad 1 (.t 20) (.t 21)),
 ⟨none, none, (.st 1 (.t 31) (.t 29))⟩,
 xC 7 (.mv (.t 30))]))
 (.reg [] [xC 17 (.mv (.t 8)),
 xC 18 (.bin .sub (.t 17) (kN 1)),
 xC 8 (.mv (.t 18))]))))))
 (.seq (.reg [] [xC 32 (.mv (.t 6)),
 xC 33 (.call 106 [(.t 32)]),
 xC 34 (.mv (.t 7)),
 xC 4 (.mv (.t 33)),
 xC 5 (.mv (.t 34))])
 .ret))))), [(.tmp 4), (.tmp 5)], [], true⟩
theorem hb150 : hasBody Tryz.prog 150 = true := by kernel_rfl
theorem fk150 : FEOK Tryz.prog 150 fe150 := ⟨by kernel_rfl, by kernel_rfl, hb150⟩
/-- slices.insertionSortCmpFunc[isohyet/steal.Share] -/
def fe157 : FE := ⟨53, (.seq (.reg [] [xC 10 (.mv (.t 1)),
 xC 11 (.bin .add (.t 10) (kN 1)),
 xC 8 (.mv (.t 11))])
 (.block 0 (.loop (.seq (.seq (.reg [] [xC 12 (.mv (.t 8)),
 xC 13 (.mv (.t 2)),
 xC 14 (.bin .lss (.t 12) (.t 13))])
 (.cond (.t 14) .skip (.exit 0)))
 (.seq (.block 1 (.seq (.reg [] [xC 17 (.mv (.t 8)),
 xC 9 (.mv (.t 17))])
 (.block 2 (.loop (.seq (.seq (.regd [] [[], [], [0, 1], [2], [3], [3], [3], [5, 6, 3], [7, 3], [3], [3], [10, 3], [9, 11, 3], [12, 3], [4, 8, 13, 3, 3], [14, 3], [3, 15]] [xU 18 (.mv (.t 9)),
 xU 19 (.mv (.t 1)),
 xU 20 (.bin .gtr (.t 18) (.t 19)),
 xU 21 (.mv (.t 20)),
 (⟨(some 22), (some (21, true)), (.mv (.t 3))⟩, ⟨[], none, false, false⟩),
 (⟨(some 23), (some (21, true)), (.mv (.t 0))⟩, ⟨[], none, false, false⟩),
 (⟨(some 24), (some (21, true)), (.mv (.t 9))⟩, ⟨[], none, false, false⟩),
 (⟨(some 25), (some (21, true)), (.iad 4 (.t 23) (.t 24))⟩, ⟨[], none, false, false⟩),
 (⟨(some 26), (some (21, true)), (.ld true 4 (.t 25))⟩, ⟨[], none, true, false⟩),
 (⟨(some 27), (some (21, true)), (.mv (.t 0))⟩, ⟨[], none, false, false⟩),
 (⟨(some 28), (some (21, true)), (.mv (.t 9))⟩, ⟨[], none, false, false⟩),
 (⟨(some 29), (some (21, true)), (.bin .sub (.t 28) (kN 1))⟩, ⟨[], none, false, false⟩),
 (⟨(some 30), (some (21, true)), (.iad 4 (.t 27) (.t 29))⟩, ⟨[], none, false, false⟩),
 (⟨(some 31), (some (21, true)), (.ld true 4 (.t 30))⟩, ⟨[], none, true, false⟩),
 (⟨(some 32), (some (21, true)), (.callv (.t 22) [(.t 26), (.t 31)])⟩, ⟨[], none, true, false⟩),
 (⟨(some 33), (some (21, true)), (.bin .lss (.t 32) kZ)⟩, ⟨[], none, false, false⟩),
 xU 34 (.pick (.t 21) (.t 33) (.k bF))])
 (.cond (.t 34) .skip (.exit 2)))
 (.seq (.block 3 (.regd [] [[], [], [], [], [3], [], [], [6], [5, 7], [8], [], [], [10, 11], [12], [0, 1, 0, 1, 5, 6, 7, 8, 9, 13], [14, 9, 0, 1, 5, 6, 7, 8, 9, 13], [2, 4, 0, 1, 2, 3, 4, 5, 6, 7, 8, 9, 10, 11, 12, 13, 14, 15], [16, 13, 15, 0, 1, 2, 3, 4, 5, 6, 7, 8, 9, 10, 11, 12, 13, 14, 15]] [xU 37 (.mv (.t 0)),
 xU 38 (.mv (.t 9)),
 xU 39 (.mv (.t 0)),
 xU 40 (.mv (.t 9)),
 xU 41 (.bin .sub (.t 40) (kN 1)),
 xU 42 (.mv (.t 0)),
 xU 43 (.mv (.t 9)),
 xU 44 (.bin .sub (.t 43) (kN 1)),
 xU 45 (.iad 4 (.t 42) (.t 44)),
 xV 46 (.ld true 4 (.t 45)),
 xU 47 (.mv (.t 0)),
 xU 48 (.mv (.t 9)),
 xU 49 (.iad 4 (.t 47) (.t 48)),
 xV 50 (.ld true 4 (.t 49)),
 xU 51 (.iad 4 (.t 37) (.t 38)),
 (⟨none, none, (.st 4 (.t 51) (.t 46))⟩, ⟨[], none, true, true⟩),
 xU 52 (.iad 4 (.t 39) (.t 41)),
 (⟨none, none, (.st 4 (.t 52) (.t 50))⟩, ⟨[], none, true, true⟩)]))
 (.reg [] [xC 35 (.mv (.t 9)),
 xC 36 (.bin .sub (.t 35) (kN 1)),
 xC 9 (.mv (.t 36))])))))))
 (.reg [] [xC 15 (.mv (.t 8)),
 xC 16 (.bin .add (.t 15) (kN 1)),
 xC 8 (.mv (.t 16))])))))), [], [], false⟩
theorem hb157 : hasBody Tryz.prog 157 = true := by kernel_rfl
theorem fk157 : FEOK Tryz.prog 157 fe157 := ⟨by kernel_rfl, by kernel_rfl, hb157⟩
/-- isohyet/walk.first -/
def fe159 : FE := ⟨9, (.seq (.reg [] [xC 2 (.new [(zN 0)])])
 (.seq (.seq (.reg [] [xC 4 (.mv (.t 0)),
 xC 5 (.call 75 [(.t 4)])])
 (.block 0 (.rng (.t 5) [6, 7] (.reg [] [xC 3 (.mv (.t 6))]) (.block 1 (.seq (.reg [] [xC 8 (.mv (.t 3)),
 ⟨none, none, (.st 1 (.t 2) (.t 8))⟩])
 .ret)))))
 (.seq (.reg [] [⟨none, none, (.st 1 (.t 2) (.k (.lit (.int .i64 (-1)))))⟩])
 .ret))), [(.cell 2 false 1)], [2], true⟩
theorem hb159 : hasBody Tryz.prog 159 = true := by kernel_rfl
theorem fk159 : FEOK Tryz.prog 159 fe159 := ⟨by kernel_rfl, by kernel_rfl, hb159⟩
/-- isohyet/wide.Times -/
def fe162 : FE := ⟨76, (.seq (.reg [2, 4] [xC 2 (.box (.t 0)),
 xC 4 (.new [(.lit (.int .u64 0)), (.lit (.int .u64 0))]),
 xC 5 (.mv (.k bF))])
 (.seq (.reg [] [xC 14 (.ld true 2 (.t 2)),
 xC 15 (.call 147 [(.t 14)]),
 xC 16 (.mv (.t 1)),
 xC 17 (.bin .lss (.t 16) kZ),
 xC 18 (.eqb true (.t 15) (.t 17)),
 xC 6 (.mv (.t 18))])
 (.seq (.seq (.reg [] [xC 19 (.ld true 2 (.t 2)),
 xC 20 (.call 147 [(.t 19)])])
 (.cond (.t 20) (.reg [] [xC 21 (.ld true 2 (.t 2)),
 xC 22 (.call 148 [(.t 21)]),
 ⟨none, none, (.st 2 (.t 2) (.t 22))⟩]) .skip))
 (.seq (.reg [] [xC 23 (.mv (.t 1)),
 xC 24 (.call 149 [(.t 23)]),
 xC 7 (.mv (.t 24))])
 (.seq (.reg [] [xC 26 (.fad 0 (.t 2)),
 xC 27 (.ld false 1 (.t 26)),
 xC 28 (.mv (.t 7)),
 xC 29 (.call 104 [(.t 27), (.t 28)]),
 xC 25 (.mv (.t 29)),
 xC 30 (.ext (.t 25) 0),
 xC 31 (.ext (.t 25) 1),
 xC 8 (.mv (.t 30)),
 xC 9 (.mv (.t 31))])
 (.seq (.reg [] [xC 33 (.fad 1 (.t 2)),
 xC 34 (.ld false 1 (.t 33)),
 xC 35 (.mv (.t 7)),
 xC 36 (.call 104 [(.t 34), (.t 35)]),
 xC 32 (.mv (.t 36)),
 xC 37 (.ext (.t 32) 0),
 xC 38 (.ext (.t 32) 1),
 xC 10 (.mv (.t 37)),
 xC 11 (.mv (.t 38))])
 (.seq (.reg [] [xC 40 (.mv (.t 9)),
 xC 41 (.mv (.t 10)),
 xC 42 (.adc (.t 40) (.t 41) (.k (.lit (.int .u64 0)))),
 xC 39 (.mv (.t 42)),
 xC 43 (.ext (.t 39) 0),
 xC 44 (.ext (.t 39) 1),
 xC 9 (.mv (.t 43)),
 xC 12 (.mv (.t 44))])
 (.seq (.reg [13] [xC 45 (.mv (.t 9)),
 xC 46 (.mv (.t 11)),
 xC 47 (.bld [(.lit (.int .u64 0)), (.lit (.int .u64 0))] [(0, (1, (.t 45))), (1, (1, (.t 46)))]),
 xC 13 (.new [(.lit (.int .u64 0)), (.lit (.int .u64 0))]),
 ⟨none, none, (.st 2 (.t 13) (.t 47))⟩])
 (.seq (.block 0 (.seq (.reg [] [xC 49 (.mv (.t 8)),
 xC 50 (.mv (.t 12)),
 xC 51 (.bin .add (.t 49) (.t 50)),
 xC 52 (.bin .gtr (.t 51) (.k (.lit (.int .u64 0)))),
 xC 48 (.mv (.t 52))])
 (.cond (.t 48) (.seq (.reg [] [xC 53 (.bld [(.lit (.int .u64 0)), (.lit (.int .u64 0))] []),
 ⟨none, none, (.st 2 (.t 4) (.t 53))⟩,
 xC 5 (.mv (.k bF))])
 .ret) (.seq (.reg [] [xC 55 (.mv (.t 6)),
 xC 54 (.mv (.t 55))])
 (.cond (.t 54) (.seq (.reg [] [xC 56 (.ld true 2 (.t 13)),
 xC 57 (.call 148 [(.t 56)]),
 ⟨none, none, (.st 2 (.t 13) (.t 57))⟩])
 (.seq (.regd [] [[], [], [1], [2, 2], [3], [3], [4, 5, 3], [3, 6], [0, 7, 3], [8], [8], [9, 8, 0, 1, 2, 3, 4, 5, 6, 7, 8, 9, 10], [10, 11, 0, 1, 2, 3, 4, 5, 6, 7, 8, 9, 10, 11]] [(xC 58 (.ld true 2 (.t 13)), ⟨[13], none, false, false⟩),
 (xC 59 (.ld true 2 (.t 13)), ⟨[13], none, false, false⟩),
 xV 60 (.call 147 [(.t 59)]),
 xU 61 (.mv (.t 60)),
 (⟨(some 62), (some (61, false)), (.ld true 2 (.t 13))⟩, ⟨[13], none, false, false⟩),
 (⟨(some 63), (some (61, false)), (.bld [(.lit (.int .u64 0)), (.lit (.int .u64 0))] [])⟩, ⟨[], none, false, false⟩),
 (⟨(some 64), (some (61, false)), (.eqc false [true, true] (.t 62) (.t 63))⟩, ⟨[], none, false, false⟩),
 xU 65 (.pick (.t 61) (.k bT) (.t 64)),
 xV 66 (.call 173 [(.t 58), (.t 65)]),
 xU 67 (.ext (.t 66) 0),
 xU 68 (.ext (.t 66) 1),
 (⟨none, none, (.st 2 (.t 4) (.t 67))⟩, ⟨[4], some 4, false, false⟩),
 xU 5 (.mv (.t 68))])
 .ret)) .skip)))))
 (.seq (.regd [] [[], [], [1], [2], [0, 3, 2], [4], [4], [5, 4, 0, 1, 2, 3, 4, 5, 6], [6, 7, 0, 1, 2, 3, 4, 5, 6, 7]] [(xC 69 (.ld true 2 (.t 13)), ⟨[13], none, false, false⟩),
 (xC 70 (.ld true 2 (.t 13)), ⟨[13], none, false, false⟩),
 xV 71 (.call 147 [(.t 70)]),
 xU 72 (.un .not (.t 71)),
 xV 73 (.call 173 [(.t 69), (.t 72)]),
 xU 74 (.ext (.t 73) 0),
 xU 75 (.ext (.t 73) 1),
 (⟨none, none, (.st 2 (.t 4) (.t 74))⟩, ⟨[4], some 4, false, false⟩),
 xU 5 (.mv (.t 75))])
 .ret)))))))))), [(.cell 4 true 2), (.tmp 5)], [], true⟩
theorem hb162 : hasBody Tryz.prog 162 = true := by kernel_rfl
theorem fk162 : FEOK Tryz.prog 162 fe162 := ⟨by kernel_rfl, by kernel_rfl, hb162⟩
/-- isohyet/wide.Add -/
def fe163 : FE := ⟨45, (.seq (.reg [2, 3, 4] [xC 2 (.box (.t 0)),
 xC 3 (.box (.t 1)),
 xC 4 (.new [(.lit (.int .u64 0)), (.lit (.int .u64 0))]),
 xC 5 (.mv (.k bF))])
 (.seq (.reg [] [xC 12 (.fad 1 (.t 2)),
 xC 13 (.ld false 1 (.t 12)),
 xC 14 (.fad 1 (.t 3)),
 xC 15 (.ld false 1 (.t 14)),
 xC 16 (.adc (.t 13) (.t 15) (.k (.lit (.int .u64 0)))),
 xC 11 (.mv (.t 16)),
 xC 17 (.ext (.t 11) 0),
 xC 18 (.ext (.t 11) 1),
 xC 6 (.mv (.t 17)),
 xC 7 (.mv (.t 18))])
 (.seq (.reg [] [xC 20 (.fad 0 (.t 2)),
 xC 21 (.ld false 1 (.t 20)),
 xC 22 (.fad 0 (.t 3)),
 xC 23 (.ld false 1 (.t 22)),
 xC 24 (.mv (.t 7)),
 xC 25 (.adc (.t 21) (.t 23) (.t 24)),
 xC 19 (.mv (.t 25)),
 xC 26 (.ext (.t 19) 0),
 xC 27 (.ext (.t 19) 1),
 xC 8 (.mv (.t 26)),
 xC 9 (.mv (.t 27))])
 (.seq (.reg [10] [xC 28 (.mv (.t 8)),
 xC 29 (.mv (.t 6)),
 xC 30 (.bld [(.lit (.int .u64 0)), (.lit (.int .u64 0))] [(0, (1, (.t 28))), (1, (1, (.t 29)))]),
 xC 10 (.new [(.lit (.int .u64 0)), (.lit (.int .u64 0))]),
 ⟨none, none, (.st 2 (.t 10) (.t 30))⟩])
 (.seq (.seq (.regd [] [[], [0], [], [2, 1], [1, 3], [4, 3], [5], [6, 5, 5], [5], [8, 7, 5], [7, 9, 5], [5, 10]] [(xC 31 (.ld true 2 (.t 2)), ⟨[2], none, false, false⟩),
 xV 32 (.call 147 [(.t 31)]),
 (xC 33 (.ld true 2 (.t 3)), ⟨[3], none, false, false⟩),
 xV 34 (.call 147 [(.t 33)]),
 xU 35 (.eqb false (.t 32) (.t 34)),
 xU 36 (.mv (.t 35)),
 (⟨(some 37), (some (36, true)), (.ld true 2 (.t 10))⟩, ⟨[10], none, false, false⟩),
 (⟨(some 38), (some (36, true)), (.call 147 [(.t 37)])⟩, ⟨[], none, true, false⟩),
 (⟨(some 39), (some (36, true)), (.ld true 2 (.t 2))⟩, ⟨[2], none, false, false⟩),
 (⟨(some 40), (some (36, true)), (.call 147 [(.t 39)])⟩, ⟨[], none, true, false⟩),
 (⟨(some 41), (some (36, true)), (.eqb true (.t 38) (.t 40))⟩, ⟨[], none, false, false⟩),
 xU 42 (.pick (.t 36) (.t 41) (.k bF))])
 (.cond (.t 42) (.seq (.reg [] [xC 43 (.bld [(.lit (.int .u64 0)), (.lit (.int .u64 0))] []),
 ⟨none, none, (.st 2 (.t 4) (.t 43))⟩,
 xC 5 (.mv (.k bF))])
 .ret) .skip))
 (.seq (.reg [] [xC 44 (.ld true 2 (.t 10)),
 ⟨none, none, (.st 2 (.t 4) (.t 44))⟩,
 xC 5 (.mv (.k bT))])
 .ret)))))), [(.cell 4 true 2), (.tmp 5)], [], true⟩
theorem hb163 : hasBody Tryz.prog 163 = true := by kernel_rfl
theorem fk163 : FEOK Tryz.prog 163 fe163 := ⟨by kernel_rfl, by kernel_rfl, hb163⟩
/-- isohyet/wide.Sub -/
def fe164 : FE := ⟨45, (.seq (.reg [2, 3, 4] [xC 2 (.box (.t 0)),
 xC 3 (.box (.t 1)),
 xC 4 (.new [(.lit (.int .u64 0)), (.lit (.int .u64 0))]),
 xC 5 (.mv (.k bF))])
 (.seq (.reg [] [xC 12 (.fad 1 (.t 2)),
 xC 13 (.ld false 1 (.t 12)),
 xC 14 (.fad 1 (.t 3)),
 xC 15 (.ld false 1 (.t 14)),
 xC 16 (.sbb (.t 13) (.t 15) (.k (.lit (.int .u64 0)))),
 xC 11 (.mv (.t 16)),
 xC 17 (.ext (.t 11) 0),
 xC 18 (.ext (.t 11) 1),
 xC 6 (.mv (.t 17)),
 xC 7 (.mv (.t 18))])
 (.seq (.reg [] [xC 20 (.fad 0 (.t 2)),
 xC 21 (.ld false 1 (.t 20)),
 xC 22 (.fad 0 (.t 3)),
 xC 23 (.ld false 1 (.t 22)),
 xC 24 (.mv (.t 7)),
 xC 25 (.sbb (.t 21) (.t 23) (.t 24)),
 xC 19 (.mv (.t 25)),
 xC 26 (.ext (.t 19) 0),
 xC 27 (.ext (.t 19) 1),
 xC 8 (.mv (.t 26)),
 xC 9 (.mv (.t 27))])
 (.seq (.reg [10] [xC 28 (.mv (.t 8)),
 xC 29 (.mv (.t 6)),
 xC 30 (.bld [(.lit (.int .u64 0)), (.lit (.int .u64 0))] [(0, (1, (.t 28))), (1, (1, (.t 29)))]),
 xC 10 (.new [(.lit (.int .u64 0)), (.lit (.int .u64 0))]),
 ⟨none, none, (.st 2 (.t 10) (.t 30))⟩])
 (.seq (.seq (.regd [] [[], [0], [], [2, 1], [1, 3], [4, 3], [5], [6, 5, 5], [5], [8, 7, 5], [7, 9, 5], [5, 10]] [(xC 31 (.ld true 2 (.t 2)), ⟨[2], none, false, false⟩),
 xV 32 (.call 147 [(.t 31)]),
 (xC 33 (.ld true 2 (.t 3)), ⟨[3], none, false, false⟩),
 xV 34 (.call 147 [(.t 33)]),
 xU 35 (.eqb true (.t 32) (.t 34)),
 xU 36 (.mv (.t 35)),
 (⟨(some 37), (some (36, true)), (.ld true 2 (.t 10))⟩, ⟨[10], none, false, false⟩),
 (⟨(some 38), (some (36, true)), (.call 147 [(.t 37)])⟩, ⟨[], none, true, false⟩),
 (⟨(some 39), (some (36, true)), (.ld true 2 (.t 2))⟩, ⟨[2], none, false, false⟩),
 (⟨(some 40), (some (36, true)), (.call 147 [(.t 39)])⟩, ⟨[], none, true, false⟩),
 (⟨(some 41), (some (36, true)), (.eqb true (.t 38) (.t 40))⟩, ⟨[], none, false, false⟩),
 xU 42 (.pick (.t 36) (.t 41) (.k bF))])
 (.cond (.t 42) (.seq (.reg [] [xC 43 (.bld [(.lit (.int .u64 0)), (.lit (.int .u64 0))] []),
 ⟨none, none, (.st 2 (.t 4) (.t 43))⟩,
 xC 5 (.mv (.k bF))])
 .ret) .skip))
 (.seq (.reg [] [xC 44 (.ld true 2 (.t 10)),
 ⟨none, none, (.st 2 (.t 4) (.t 44))⟩,
 xC 5 (.mv (.k bT))])
 .ret)))))), [(.cell 4 true 2), (.tmp 5)], [], true⟩
theorem hb164 : hasBody Tryz.prog 164 = true := by kernel_rfl
theorem fk164 : FEOK Tryz.prog 164 fe164 := ⟨by kernel_rfl, by kernel_rfl, hb164⟩
/-- cmp.isNaN[int] -/
def fe170 : FE := ⟨6, (.seq (.reg [] [xC 2 (.mv (.k bF))])
 (.seq (.reg [] [xC 3 (.mv (.t 0)),
 xC 4 (.mv (.t 0)),
 xC 5 (.bin .neq (.t 3) (.t 4)),
 xC 2 (.mv (.t 5))])
 .ret)), [(.tmp 2)], [], true⟩
theorem hb170 : hasBody Tryz.prog 170 = true := by kernel_rfl
theorem fk170 : FEOK Tryz.prog 170 fe170 := ⟨by kernel_rfl, by kernel_rfl, hb170⟩
/-- math/bits.Div64 -/
def fe171 : FE := ⟨135, (.seq (.reg [] [xC 6 (.mv (.k (.lit (.int .u64 0)))),
 xC 7 (.mv (.k (.lit (.int .u64 0))))])
 (.seq (.seq (.reg [] [xC 19 (.mv (.t 2)),
 xC 20 (.bin .eql (.t 19) (.k (.lit (.int .u64 0))))])
 (.cond (.t 20) .no .skip))
 (.seq (.seq (.reg [] [xC 22 (.mv (.t 2)),
 xC 23 (.mv (.t 0)),
 xC 24 (.bin .leq (.t 22) (.t 23))])
 (.cond (.t 24) .no .skip))
 (.seq (.seq (.reg [] [xC 26 (.mv (.t 0)),
 xC 27 (.bin .eql (.t 26) (.k (.lit (.int .u64 0))))])
 (.cond (.t 27) (.seq (.regd [] [[], [], [0, 1], [], [], [3, 4], [2, 0, 1, 2], [5, 6, 0, 1, 2, 3, 4, 5, 6]] [xU 28 (.mv (.t 1)),
 xU 29 (.mv (.t 2)),
 xU 30 (.bin .quo (.t 28) (.t 29)),
 xU 31 (.mv (.t 1)),
 xU 32 (.mv (.t 2)),
 xU 33 (.bin .rem (.t 31) (.t 32)),
 xU 6 (.mv (.t 30)),
 xU 7 (.mv (.t 33))])
 .ret) .skip))
 (.seq (.reg [] [xC 34 (.mv (.t 2)),
 xC 35 (.call 175 [(.t 34)]),
 xC 36 (.cv .u64 (.t 35)),
 xC 8 (.mv (.t 36))])
 (.seq (.reg [] [xC 37 (.mv (.t 2)),
 xC 38 (.mv (.t 8)),
 xC 39 (.bin .shl (.t 37) (.t 38)),
 xC 2 (.mv (.t 39))])
 (.seq (.reg [] [xC 40 (.mv (.t 2)),
 xC 41 (.bin .shr (.t 40) (.k (.lit (.int .u64 32)))),
 xC 9 (.mv (.t 41))])
 (.seq (.reg [] [xC 42 (.mv (.t 2)),
 xC 43 (.bin .and (.t 42) (.k (.lit (.int .u64 4294967295)))),
 xC 10 (.mv (.t 43))])
 (.seq (.reg [] [xC 44 (.mv (.t 0)),
 xC 45 (.mv (.t 8)),
 xC 46 (.bin .shl (.t 44) (.t 45)),
 xC 47 (.mv (.t 1)),
 xC 48 (.mv (.t 8)),
 xC 49 (.bin .sub (.k (.lit (.int .u64 64))) (.t 48)),
 xC 50 (.bin .shr (.t 47) (.t 49)),
 xC 51 (.bin .or (.t 46) (.t 50)),
 xC 11 (.mv (.t 51))])
 (.seq (.reg [] [xC 52 (.mv (.t 1)),
 xC 53 (.mv (.t 8)),
 xC 54 (.bin .shl (.t 52) (.t 53)),
 xC 12 (.mv (.t 54))])
 (.seq (.reg [] [xC 55 (.mv (.t 12)),
 xC 56 (.bin .shr (.t 55) (.k (.lit (.int .u64 32)))),
 xC 13 (.mv (.t 56))])
 (.seq (.reg [] [xC 57 (.mv (.t 12)),
 xC 58 (.bin .and (.t 57) (.k (.lit (.int .u64 4294967295)))),
 xC 14 (.mv (.t 58))])
 (.seq (.reg [] [xC 59 (.mv (.t 11)),
 xC 60 (.mv (.t 9)),
 xC 61 (.bin .quo (.t 59) (.t 60)),
 xC 15 (.mv (.t 61))])
 (.seq (.reg [] [xC 62 (.mv (.t 11)),
 xC 63 (.mv (.t 15)),
 xC 64 (.mv (.t 9)),
 xC 65 (.bin .mul (.t 63) (.t 64)),
 xC 66 (.bin .sub (.t 62) (.t 65)),
 xC 16 (.mv (.t 66))])
 (.seq (.block 0 (.loop (.seq (.seq (.reg [] [xC 67 (.mv (.t 15)),
 xC 68 (.bin .geq (.t 67) (.k (.lit (.int .u64 4294967296)))),
 xC 69 (.mv (.t 68)),
 ⟨(some 70), (some (69, false)), (.mv (.t 15))⟩,
 ⟨(some 71), (some (69, false)), (.mv (.t 10))⟩,
 ⟨(some 72), (some (69, false)), (.bin .mul (.t 70) (.t 71))⟩,
 ⟨(some 73), (some (69, false)), (.mv (.t 16))⟩,
 ⟨(some 74), (some (69, false)), (.bin .mul (.k (.lit (.int .u64 4294967296))) (.t 73))⟩,
 ⟨(some 75), (some (69, false)), (.mv (.t 13))⟩,
 ⟨(some 76), (some (69, false)), (.bin .add (.t 74) (.t 75))⟩,
 ⟨(some 77), (some (69, false)), (.bin .gtr (.t 72) (.t 76))⟩,
 xC 78 (.pick (.t 69) (.k bT) (.t 77))])
 (.cond (.t 78) .skip (.exit 0)))
 (.block 1 (.seq (.reg [] [xC 79 (.mv (.t 15)),
 xC 80 (.bin .sub (.t 79) (.k (.lit (.int .u64 1)))),
 xC 15 (.mv (.t 80))])
 (.seq (.reg [] [xC 81 (.mv (.t 16)),
 xC 82 (.mv (.t 9)),
 xC 83 (.bin .add (.t 81) (.t 82)),
 xC 16 (.mv (.t 83))])
 (.seq (.reg [] [xC 84 (.mv (.t 16)),
 xC 85 (.bin .geq (.t 84) (.k (.lit (.int .u64 4294967296))))])
 (.cond (.t 85) (.exit 0) .skip))))))))
 (.seq (.reg [] [xC 86 (.mv (.t 11)),
 xC 87 (.bin .mul (.t 86) (.k (.lit (.int .u64 4294967296)))),
 xC 88 (.mv (.t 13)),
 xC 89 (.bin .add (.t 87) (.t 88)),
 xC 90 (.mv (.t 15)),
 xC 91 (.mv (.t 2)),
 xC 92 (.bin .mul (.t 90) (.t 91)),
 xC 93 (.bin .sub (.t 89) (.t 92)),
 xC 17 (.mv (.t 93))])
 (.seq (.reg [] [xC 94 (.mv (.t 17)),
 xC 95 (.mv (.t 9)),
 xC 96 (.bin .quo (.t 94) (.t 95)),
 xC 18 (.mv (.t 96))])
 (.seq (.reg [] [xC 97 (.mv (.t 17)),
 xC 98 (.mv (.t 18)),
 xC 99 (.mv (.t 9)),
 xC 100 (.bin .mul (.t 98) (.t 99)),
 xC 101 (.bin .sub (.t 97) (.t 100)),
 xC 16 (.mv (.t 101))])
 (.seq (.block 2 (.loop (.seq (.seq (.reg [] [xC 102 (.mv (.t 18)),
 xC 103 (.bin .geq (.t 102) (.k (.lit (.int .u64 4294967296)))),
 xC 104 (.mv (.t 103)),
 ⟨(some 105), (some (104, false)), (.mv (.t 18))⟩,
 ⟨(some 106), (some (104, false)), (.mv (.t 10))⟩,
 ⟨(some 107), (some (104, false)), (.bin .mul (.t 105) (.t 106))⟩,
 ⟨(some 108), (some (104, false)), (.mv (.t 16))⟩,
 ⟨(some 109), (some (104, false)), (.bin .mul (.k (.lit (.int .u64 4294967296))) (.t 108))⟩,
 ⟨(some 110), (some (104, false)), (.mv (.t 14))⟩,
 ⟨(some 111), (some (104, false)), (.bin .add (.t 109) (.t 110))⟩,
 ⟨(some 112), (some (104, false)), (.bin .gtr (.t 107) (.t 111))⟩,
 xC 113 (.pick (.t 104) (.k bT) (.t 112))])
 (.cond (.t 113) .skip (.exit 2)))
 (.block 3 (.seq (.reg [] [xC 114 (.mv (.t 18)),
 xC 115 (.bin .sub (.t 114) (.k (.lit (.int .u64 1)))),
 xC 18 (.mv (.t 115))])
 (.seq (.reg [] [xC 116 (.mv (.t 16)),
 xC 117 (.mv (.t 9)),
 xC 118 (.bin .add (.t 116) (.t 117)),
 xC 16 (.mv (.t 118))])
 (.seq (.reg [] [xC 119 (.mv (.t 16)),
 xC 120 (.bin .geq (.t 119) (.k (.lit (.int .u64 4294967296))))])
 (.cond (.t 120) (.exit 2) .skip))))))))
 (.seq (.reg [] [xC 121 (.mv (.t 15)),
 xC 122 (.bin .mul (.t 121) (.k (.lit (.int .u64 4294967296)))),
 xC 123 (.mv (.t 18)),
 xC 124 (.bin .add (.t 122) (.t 123)),
 xC 125 (.mv (.t 17)),
 xC 126 (.bin .mul (.t 125) (.k (.lit (.int .u64 4294967296)))),
 xC 127 (.mv (.t 14)),
 xC 128 (.bin .add (.t 126) (.t 127)),
 xC 129 (.mv (.t 18)),
 xC 130 (.mv (.t 2)),
 xC 131 (.bin .mul (.t 129) (.t 130)),
 xC 132 (.bin .sub (.t 128) (.t 131)),
 xC 133 (.mv (.t 8)),
 xC 134 (.bin .shr (.t 132) (.t 133)),
 xC 6 (.mv (.t 124)),
 xC 7 (.mv (.t 134))])
 .ret)))))))))))))))))))), [(.tmp 6), (.tmp 7)], [], true⟩
theorem hb171 : hasBody Tryz.prog 171 = true := by kernel_rfl
theorem fk171 : FEOK Tryz.prog 171 fe171 := ⟨by kernel_rfl, by kernel_rfl, hb171⟩
/-- isohyet/wide.pick -/
def fe173 : FE := ⟨10, (.seq (.reg [2, 4] [xC 2 (.box (.t 0)),
 xC 4 (.new [(.lit (.int .u64 0)), (.lit (.int .u64 0))]),
 xC 5 (.mv (.k bF))])
 (.seq (.seq (.reg [] [xC 6 (.mv (.t 1)),
 xC 7 (.un .not (.t 6))])
 (.cond (.t 7) (.seq (.reg [] [xC 8 (.bld [(.lit (.int .u64 0)), (.lit (.int .u64 0))] []),
 ⟨none, none, (.st 2 (.t 4) (.t 8))⟩,
 xC 5 (.mv (.k bF))])
 .ret) .skip))
 (.seq (.reg [] [xC 9 (.ld true 2 (.t 2)),
 ⟨none, none, (.st 2 (.t 4) (.t 9))⟩,
 xC 5 (.mv (.k bT))])
 .ret))), [(.cell 4 true 2), (.tmp 5)], [], true⟩
theorem hb173 : hasBody Tryz.prog 173 = true := by kernel_rfl
theorem fk173 : FEOK Tryz.prog 173 fe173 := ⟨by kernel_rfl, by kernel_rfl, hb173⟩
/-- math/bits.LeadingZeros64 -/
def fe175 : FE := ⟨6, (.seq (.reg [] [xC 2 (.mv kZ)])
 (.seq (.reg [] [xC 3 (.mv (.t 0)),
 xC 4 (.call 146 [(.t 3)]),
 xC 5 (.bin .sub (kN 64) (.t 4)),
 xC 2 (.mv (.t 5))])
 .ret)), [(.tmp 2)], [], true⟩
theorem hb175 : hasBody Tryz.prog 175 = true := by kernel_rfl
theorem fk175 : FEOK Tryz.prog 175 fe175 := ⟨by kernel_rfl, by kernel_rfl, hb175⟩
end Iso

/- The table of functions for the runner. -/
namespace Iso
open Go Go.Proofs
noncomputable def tab14 : Tr FE := (.node (.node (.node (.node (.node (.node (.node (.node .nil (some fe127) .nil) (some fe63) .nil) none (.node (.node .nil (some fe159) .nil) (some fe95) .nil)) (some fe15) (.node .nil none (.node (.node .nil (some fe175) .nil) (some fe111) .nil))) none (.node (.node (.node (.node .nil (some fe135) .nil) (some fe71) .nil) (some fe39) (.node .nil (some fe103) .nil)) (some fe23) (.node .nil (some fe55) .nil))) none (.node (.node (.node (.node (.node .nil (some fe131) .nil) (some fe67) .nil) none (.node (.node .nil (some fe163) .nil) (some fe99) .nil)) (some fe19) (.node (.node (.node .nil (some fe147) .nil) none .nil) (some fe51) (.node .nil (some fe115) .nil))) none (.node (.node (.node .nil (some fe75) .nil) (some fe43) (.node (.node .nil (some fe171) .nil) (some fe107) .nil)) (some fe27) (.node (.node .nil (some fe91) .nil) (some fe59) .nil)))) none (.node (.node (.node (.node (.node (.node .nil (some fe129) .nil) (some fe65) .nil) (some fe33) (.node .nil (some fe97) .nil)) none (.node (.node (.node .nil (some fe145) .nil) (some fe81) .nil) (some fe49) (.node .nil (some fe113) .nil))) none (.node (.node (.node .nil (some fe73) .nil) none .nil) (some fe25) (.node (.node .nil (some fe89) .nil) (some fe57) .nil))) none (.node (.node (.node (.node (.node .nil (some fe133) .nil) none .nil) (some fe37) (.node .nil (some fe101) .nil)) (some fe21) (.node (.node (.node .nil (some fe149) .nil) none .nil) (some fe53) (.node .nil (some fe117) .nil))) (some fe13) (.node (.node (.node .nil (some fe77) .nil) (some fe45) (.node (.node .nil (some fe173) .nil) (some fe109) .nil)) none (.node (.node (.node .nil (some fe157) .nil) (some fe93) .nil) (some fe61) .nil))))) none (.node (.node (.node (.node (.node (.node (.node .nil (some fe128) .nil) (some fe64) .nil) none (.node .nil (some fe96) .nil)) (some fe16) (.node (.node .nil (some fe80) .nil) none (.node .nil (some fe112) .nil))) none (.node (.node (.node (.node .nil (some fe136) .nil) (some fe72) .nil) (some fe40) (.node .nil (some fe104) .nil)) (some fe24) (.node (.node .nil (some fe88) .nil) (some fe56) .nil))) none (.node (.node (.node (.node (.node .nil (some fe132) .nil) (some fe68) .nil) (some fe36) (.node (.node .nil (some fe164) .nil) (some fe100) .nil)) none (.node (.node (.node .nil (some fe148) .nil) none .nil) (some fe52) (.node .nil (some fe116) .nil))) none (.node (.node (.node .nil (some fe76) .nil) (some fe44) (.node .nil (some fe108) .nil)) (some fe28) (.node (.node .nil (some fe92) .nil) (some fe60) .nil)))) none (.node (.node (.node (.node (.node (.node .nil (some fe130) .nil) (some fe66) .nil) none (.node (.node .nil (some fe162) .nil) (some fe98) .nil)) none (.node (.node (.node .nil (some fe146) .nil) (some fe82) .nil) (some fe50) (.node .nil (some fe114) .nil))) none (.node (.node (.node .nil (some fe74) .nil) none (.node (.node .nil (some fe170) .nil) (some fe106) .nil)) (some fe26) (.node (.node .nil (some fe90) .nil) (some fe58) .nil))) none (.node (.node (.node (.node (.node .nil (some fe134) .nil) (some fe70) .nil) (some fe38) (.node .nil (some fe102) .nil)) (some fe22) (.node (.node (.node .nil (some fe150) .nil) none .nil) (some fe54) (.node .nil (some fe118) .nil))) none (.node (.node (.node (.node .nil (some fe142) .nil) (some fe78) .nil) none .nil) none (.node (.node .nil (some fe94) .nil) (some fe62) (.node .nil (some fe126) .nil)))))))
theorem tab14_ok : AllT (FEOK Tryz.prog) tab14 (fun n => n) := ⟨⟨⟨⟨⟨⟨⟨⟨trivial, (fun _ h => Option.some.inj h ▸ fk127), trivial⟩, (fun _ h => Option.some.inj h ▸ fk63), trivial⟩, (fun _ h => by cases h), ⟨⟨trivial, (fun _ h => Option.some.inj h ▸ fk159), trivial⟩, (fun _ h => Option.some.inj h ▸ fk95), trivial⟩⟩, (fun _ h => Option.some.inj h ▸ fk15), ⟨trivial, (fun _ h => by cases h), ⟨⟨trivial, (fun _ h => Option.some.inj h ▸ fk175), trivial⟩, (fun _ h => Option.some.inj h ▸ fk111), trivial⟩⟩⟩, (fun _ h => by cases h), ⟨⟨⟨⟨trivial, (fun _ h => Option.some.inj h ▸ fk135), trivial⟩, (fun _ h => Option.some.inj h ▸ fk71), trivial⟩, (fun _ h => Option.some.inj h ▸ fk39), ⟨trivial, (fun _ h => Option.some.inj h ▸ fk103), trivial⟩⟩, (fun _ h => Option.some.inj h ▸ fk23), ⟨trivial, (fun _ h => Option.some.inj h ▸ fk55), trivial⟩⟩⟩, (fun _ h => by cases h), ⟨⟨⟨⟨⟨trivial, (fun _ h => Option.some.inj h ▸ fk131), trivial⟩, (fun _ h => Option.some.inj h ▸ fk67), trivial⟩, (fun _ h => by cases h), ⟨⟨trivial, (fun _ h => Option.some.inj h ▸ fk163), trivial⟩, (fun _ h => Option.some.inj h ▸ fk99), trivial⟩⟩, (fun _ h => Option.some.inj h ▸ fk19), ⟨⟨⟨trivial, (fun _ h => Option.some.inj h ▸ fk147), trivial⟩, (fun _ h => by cases h), trivial⟩, (fun _ h => Option.some.inj h ▸ fk51), ⟨trivial, (fun _ h => Option.some.inj h ▸ fk115), trivial⟩⟩⟩, (fun _ h => by cases h), ⟨⟨⟨trivial, (fun _ h => Option.some.inj h ▸ fk75), trivial⟩, (fun _ h => Option.some.inj h ▸ fk43), ⟨⟨trivial, (fun _ h => Option.some.inj h ▸ fk171), trivial⟩, (fun _ h => Option.some.inj h ▸ fk107), trivial⟩⟩, (fun _ h => Option.some.inj h ▸ fk27), ⟨⟨trivial, (fun _ h => Option.some.inj h ▸ fk91), trivial⟩, (fun _ h => Option.some.inj h ▸ fk59), trivial⟩⟩⟩⟩, (fun _ h => by cases h), ⟨⟨⟨⟨⟨⟨trivial, (fun _ h => Option.some.inj h ▸ fk129), trivial⟩, (fun _ h => Option.some.inj h ▸ fk65), trivial⟩, (fun _ h => Option.some.inj h ▸ fk33), ⟨trivial, (fun _ h => Option.some.inj h ▸ fk97), trivial⟩⟩, (fun _ h => by cases h), ⟨⟨⟨trivial, (fun _ h => Option.some.inj h ▸ fk145), trivial⟩, (fun _ h => Option.some.inj h ▸ fk81), trivial⟩, (fun _ h => Option.some.inj h ▸ fk49), ⟨trivial, (fun _ h => Option.some.inj h ▸ fk113), trivial⟩⟩⟩, (fun _ h => by cases h), ⟨⟨⟨trivial, (fun _ h => Option.some.inj h ▸ fk73), trivial⟩, (fun _ h => by cases h), trivial⟩, (fun _ h => Option.some.inj h ▸ fk25), ⟨⟨trivial, (fun _ h => Option.some.inj h ▸ fk89), trivial⟩, (fun _ h => Option.some.inj h ▸ fk57), trivial⟩⟩⟩, (fun _ h => by cases h), ⟨⟨⟨⟨⟨trivial, (fun _ h => Option.some.inj h ▸ fk133), trivial⟩, (fun _ h => by cases h), trivial⟩, (fun _ h => Option.some.inj h ▸ fk37), ⟨trivial, (fun _ h => Option.some.inj h ▸ fk101), trivial⟩⟩, (fun _ h => Option.some.inj h ▸ fk21), ⟨⟨⟨trivial, (fun _ h => Option.some.inj h ▸ fk149), trivial⟩, (fun _ h => by cases h), trivial⟩, (fun _ h => Option.some.inj h ▸ fk53), ⟨trivial, (fun _ h => Option.some.inj h ▸ fk117), trivial⟩⟩⟩, (fun _ h => Option.some.inj h ▸ fk13), ⟨⟨⟨trivial, (fun _ h => Option.some.inj h ▸ fk77), trivial⟩, (fun _ h => Option.some.inj h ▸ fk45), ⟨⟨trivial, (fun _ h => Option.some.inj h ▸ fk173), trivial⟩, (fun _ h => Option.some.inj h ▸ fk109), trivial⟩⟩, (fun _ h => by cases h), ⟨⟨⟨trivial, (fun _ h => Option.some.inj h ▸ fk157), trivial⟩, (fun _ h => Option.some.inj h ▸ fk93), trivial⟩, (fun _ h => Option.some.inj h ▸ fk61), trivial⟩⟩⟩⟩⟩, (fun _ h => by cases h), ⟨⟨⟨⟨⟨⟨⟨trivial, (fun _ h => Option.some.inj h ▸ fk128), trivial⟩, (fun _ h => Option.some.inj h ▸ fk64), trivial⟩, (fun _ h => by cases h), ⟨trivial, (fun _ h => Option.some.inj h ▸ fk96), trivial⟩⟩, (fun _ h => Option.some.inj h ▸ fk16), ⟨⟨trivial, (fun _ h => Option.some.inj h ▸ fk80), trivial⟩, (fun _ h => by cases h), ⟨trivial, (fun _ h => Option.some.inj h ▸ fk112), trivial⟩⟩⟩, (fun _ h => by cases h), ⟨⟨⟨⟨trivial, (fun _ h => Option.some.inj h ▸ fk136), trivial⟩, (fun _ h => Option.some.inj h ▸ fk72), trivial⟩, (fun _ h => Option.some.inj h ▸ fk40), ⟨trivial, (fun _ h => Option.some.inj h ▸ fk104), trivial⟩⟩, (fun _ h => Option.some.inj h ▸ fk24), ⟨⟨trivial, (fun _ h => Option.some.inj h ▸ fk88), trivial⟩, (fun _ h => Option.some.inj h ▸ fk56), trivial⟩⟩⟩, (fun _ h => by cases h), ⟨⟨⟨⟨⟨trivial, (fun _ h => Option.some.inj h ▸ fk132), trivial⟩, (fun _ h => Option.some.inj h ▸ fk68), trivial⟩, (fun _ h => Option.some.inj h ▸ fk36), ⟨⟨trivial, (fun _ h => Option.some.inj h ▸ fk164), trivial⟩, (fun _ h => Option.some.inj h ▸ fk100), trivial⟩⟩, (fun _ h => by cases h), ⟨⟨⟨trivial, (fun _ h => Option.some.inj h ▸ fk148), trivial⟩, (fun _ h => by cases h), trivial⟩, (fun _ h => Option.some.inj h ▸ fk52), ⟨trivial, (fun _ h => Option.some.inj h ▸ fk116), trivial⟩⟩⟩, (fun _ h => by cases h), ⟨⟨⟨trivial, (fun _ h => Option.some.inj h ▸ fk76), trivial⟩, (fun _ h => Option.some.inj h ▸ fk44), ⟨trivial, (fun _ h => Option.some.inj h ▸ fk108), trivial⟩⟩, (fun _ h => Option.some.inj h ▸ fk28), ⟨⟨trivial, (fun _ h => Option.some.inj h ▸ fk92), trivial⟩, (fun _ h => Option.some.inj h ▸ fk60), trivial⟩⟩⟩⟩, (fun _ h => by cases h), ⟨⟨⟨⟨⟨⟨trivial, (fun _ h => Option.some.inj h ▸ fk130), trivial⟩, (fun _ h => Option.some.inj h ▸ fk66), trivial⟩, (fun _ h => by cases h), ⟨⟨trivial, (fun _ h => Option.some.inj h ▸ fk162), trivial⟩, (fun _ h => Option.some.inj h ▸ fk98), trivial⟩⟩, (fun _ h => by cases h), ⟨⟨⟨trivial, (fun _ h => Option.some.inj h ▸ fk146), trivial⟩, (fun _ h => Option.some.inj h ▸ fk82), trivial⟩, (fun _ h => Option.some.inj h ▸ fk50), ⟨trivial, (fun _ h => Option.some.inj h ▸ fk114), trivial⟩⟩⟩, (fun _ h => by cases h), ⟨⟨⟨trivial, (fun _ h => Option.some.inj h ▸ fk74), trivial⟩, (fun _ h => by cases h), ⟨⟨trivial, (fun _ h => Option.some.inj h ▸ fk170), trivial⟩, (fun _ h => Option.some.inj h ▸ fk106), trivial⟩⟩, (fun _ h => Option.some.inj h ▸ fk26), ⟨⟨trivial, (fun _ h => Option.some.inj h ▸ fk90), trivial⟩, (fun _ h => Option.some.inj h ▸ fk58), trivial⟩⟩⟩, (fun _ h => by cases h), ⟨⟨⟨⟨⟨trivial, (fun _ h => Option.some.inj h ▸ fk134), trivial⟩, (fun _ h => Option.some.inj h ▸ fk70), trivial⟩, (fun _ h => Option.some.inj h ▸ fk38), ⟨trivial, (fun _ h => Option.some.inj h ▸ fk102), trivial⟩⟩, (fun _ h => Option.some.inj h ▸ fk22), ⟨⟨⟨trivial, (fun _ h => Option.some.inj h ▸ fk150), trivial⟩, (fun _ h => by cases h), trivial⟩, (fun _ h => Option.some.inj h ▸ fk54), ⟨trivial, (fun _ h => Option.some.inj h ▸ fk118), trivial⟩⟩⟩, (fun _ h => by cases h), ⟨⟨⟨⟨trivial, (fun _ h => Option.some.inj h ▸ fk142), trivial⟩, (fun _ h => Option.some.inj h ▸ fk78), trivial⟩, (fun _ h => by cases h), trivial⟩, (fun _ h => by cases h), ⟨⟨trivial, (fun _ h => Option.some.inj h ▸ fk94), trivial⟩, (fun _ h => Option.some.inj h ▸ fk62), ⟨trivial, (fun _ h => Option.some.inj h ▸ fk126), trivial⟩⟩⟩⟩⟩⟩⟩
end Iso
