import Derived.Test.YtlgejmkkehfllaaGreatZ3
import Derived.Test.YtlgejmkkehfllaaGreatProg
import Derived.Test.YtlgejmkkehfllaaGreatZ4
/- The compiled code of functions. -/
namespace Iso
open Go Go.Proofs
def ac5 : AC := (.seq 
  (.reg false [] [⟨(some 2), none, (.mv (.k (.lit (.bool false))))⟩]) (.seq (.seq 
  (.reg false [] [⟨(some 18), none, (.call 25 [])⟩,
    ⟨(some 19), none, (.un .not (.t 18))⟩]) (.cond (.t 19) (.seq 
  (.reg false [] [⟨(some 2), none, (.mv (.k (.lit (.bool false))))⟩]) .ret) .skip)) (.seq (.seq 
  (.reg false [] [⟨(some 20), none, (.mv (.t 0))⟩,
    ⟨(some 21), none, (.len (.t 20))⟩,
    ⟨(some 22), none, (.bin .gtr (.t 21) (.k (.lit (.int .i64 8))))⟩]) (.cond (.t 22) (.seq 
  (.reg false [] [⟨(some 2), none, (.mv (.k (.lit (.bool true))))⟩]) .ret) .skip)) (.seq 
  (.reg false [] [⟨(some 23), none, (.call 16 [(.k (.lit (.int .i64 0)))])⟩,
    ⟨(some 3), none, (.new [(.lit (.bool false)), (.lit (.slice none 0 0)), (.lit (.slice none 0 0))])⟩,
    ⟨none, none, (.st 3 (.t 3) (.t 23))⟩]) (.seq 
  (.reg false [] [⟨(some 4), none, (.mv (.k (.lit (.slice none 0 0))))⟩]) (.seq (.seq 
  (.reg false [] [⟨(some 24), none, (.mv (.t 0))⟩,
    ⟨(some 25), none, (.len (.t 24))⟩,
    ⟨(some 26), none, (.mv (.k (.lit (.int .i64 0))))⟩]) (.block 0 (.loop (.seq 
  (.reg false [] [⟨(some 27), none, (.bin .lss (.t 26) (.t 25))⟩]) (.seq (.cond (.t 27) .skip (.exit 0)) (.seq (.block 1 (.seq 
  (.reg false [] [⟨(some 28), none, (.iad 4 (.t 24) (.t 26))⟩,
    ⟨(some 29), none, (.ld true 4 (.t 28))⟩,
    ⟨(some 6), none, (.new [(.lit (.int .i64 0)), (.lit (.bool false)), (.lit (.slice none 0 0)), (.lit (.slice none 0 0))])⟩,
    ⟨none, none, (.st 4 (.t 6) (.t 29))⟩]) (.seq (.seq 
  (.reg false [] [⟨(some 30), none, (.fad 1 (.t 6))⟩,
    ⟨(some 31), none, (.fad 0 (.t 30))⟩,
    ⟨(some 32), none, (.fad 1 (.t 31))⟩,
    ⟨(some 33), none, (.ld false 1 (.t 32))⟩,
    ⟨(some 34), none, (.len (.t 33))⟩,
    ⟨(some 35), none, (.bin .gtr (.t 34) (.k (.lit (.int .i64 2))))⟩,
    ⟨(some 36), none, (.mv (.t 35))⟩,
    ⟨(some 37), (some (36, false)), (.fad 1 (.t 6))⟩,
    ⟨(some 38), (some (36, false)), (.fad 2 (.t 37))⟩,
    ⟨(some 39), (some (36, false)), (.ld false 1 (.t 38))⟩,
    ⟨(some 40), (some (36, false)), (.len (.t 39))⟩,
    ⟨(some 41), (some (36, false)), (.bin .gtr (.t 40) (.k (.lit (.int .i64 2))))⟩,
    ⟨(some 42), none, (.pick (.t 36) (.k (.lit (.bool true))) (.t 41))⟩,
    ⟨(some 43), none, (.mv (.t 42))⟩,
    ⟨(some 44), (some (43, false)), (.fad 0 (.t 6))⟩,
    ⟨(some 45), (some (43, false)), (.ld false 1 (.t 44))⟩,
    ⟨(some 46), (some (43, false)), (.bin .lss (.t 45) (.k (.lit (.int .i64 0))))⟩,
    ⟨(some 47), none, (.pick (.t 43) (.k (.lit (.bool true))) (.t 46))⟩,
    ⟨(some 48), none, (.mv (.t 47))⟩,
    ⟨(some 49), (some (48, false)), (.fad 0 (.t 6))⟩,
    ⟨(some 50), (some (48, false)), (.ld false 1 (.t 49))⟩,
    ⟨(some 51), (some (48, false)), (.bin .gtr (.t 50) (.k (.lit (.int .i64 1073741824))))⟩,
    ⟨(some 52), none, (.pick (.t 48) (.k (.lit (.bool true))) (.t 51))⟩]) (.cond (.t 52) (.seq 
  (.reg false [] [⟨(some 2), none, (.mv (.k (.lit (.bool true))))⟩]) .ret) .skip)) (.seq 
  (.reg false [] [⟨(some 53), none, (.fad 1 (.t 6))⟩,
    ⟨(some 54), none, (.ld true 3 (.t 53))⟩,
    ⟨(some 7), none, (.new [(.lit (.bool false)), (.lit (.slice none 0 0)), (.lit (.slice none 0 0))])⟩,
    ⟨none, none, (.st 3 (.t 7) (.t 54))⟩]) (.seq 
  (.reg false [] [⟨(some 55), none, (.fad 0 (.t 7))⟩,
    ⟨(some 56), none, (.fad 0 (.t 55))⟩,
    ⟨none, none, (.st 1 (.t 56) (.k (.lit (.bool false))))⟩]) (.seq 
  (.reg false [] [⟨(some 57), none, (.mv (.t 4))⟩,
    ⟨(some 58), none, (.fad 0 (.t 6))⟩,
    ⟨(some 59), none, (.ld false 1 (.t 58))⟩,
    ⟨(some 60), none, (.ld true 3 (.t 7))⟩,
    ⟨(some 61), none, (.bld [(.lit (.int .i64 0)), (.lit (.bool false)), (.lit (.slice none 0 0)), (.lit (.slice none 0 0))] [(0, (1, (.t 59))), (1, (3, (.t 60)))])⟩,
    ⟨(some 62), none, (.bsl 1 4 [(.lit (.int .i64 0)), (.lit (.bool false)), (.lit (.slice none 0 0)), (.lit (.slice none 0 0))] [(0, (4, (.t 61)))])⟩,
    ⟨(some 63), none, (.app 4 64 (.t 57) (.t 62))⟩,
    ⟨(some 4), none, (.mv (.t 63))⟩]) 
  (.reg false [] [⟨(some 64), none, (.ld true 3 (.t 3))⟩,
    ⟨(some 65), none, (.ld true 3 (.t 7))⟩,
    ⟨(some 66), none, (.call 26 [(.t 64), (.t 65)])⟩,
    ⟨none, none, (.st 3 (.t 3) (.t 66))⟩]))))))) 
  (.reg false [] [⟨(some 67), none, (.bin .add (.t 26) (.k (.lit (.int .i64 1))))⟩,
    ⟨(some 26), none, (.mv (.t 67))⟩]))))))) (.seq (.seq 
  (.reg false [] [⟨(some 68), none, (.ld true 3 (.t 3))⟩,
    ⟨(some 69), none, (.call 27 [(.t 68)])⟩,
    ⟨(some 70), none, (.bin .eql (.t 69) (.k (.lit (.int .i64 0))))⟩]) (.cond (.t 70) (.seq 
  (.reg false [] [⟨(some 2), none, (.mv (.k (.lit (.bool true))))⟩]) .ret) .skip)) (.seq 
  (.reg false [] [⟨(some 71), none, (.mv (.t 4))⟩,
    ⟨(some 72), none, (.call 28 [(.t 71)])⟩,
    ⟨(some 8), none, (.mv (.t 72))⟩]) (.seq 
  (.reg false [] [⟨(some 73), none, (.call 16 [(.k (.lit (.int .i64 0)))])⟩,
    ⟨(some 9), none, (.new [(.lit (.bool false)), (.lit (.slice none 0 0)), (.lit (.slice none 0 0))])⟩,
    ⟨none, none, (.st 3 (.t 9) (.t 73))⟩]) (.seq (.seq 
  (.reg false [] [⟨(some 74), none, (.mv (.t 8))⟩,
    ⟨(some 75), none, (.len (.t 74))⟩,
    ⟨(some 76), none, (.mv (.k (.lit (.int .i64 0))))⟩]) (.block 2 (.loop (.seq 
  (.reg false [] [⟨(some 77), none, (.bin .lss (.t 76) (.t 75))⟩]) (.seq (.cond (.t 77) .skip (.exit 2)) (.seq (.block 3 (.seq 
  (.reg false [] [⟨(some 78), none, (.mv (.t 76))⟩,
    ⟨(some 79), none, (.iad 4 (.t 74) (.t 76))⟩,
    ⟨(some 80), none, (.ld true 4 (.t 79))⟩,
    ⟨(some 11), none, (.new [(.lit (.int .i64 0)), (.lit (.bool false)), (.lit (.slice none 0 0)), (.lit (.slice none 0 0))])⟩,
    ⟨(some 10), none, (.mv (.t 78))⟩,
    ⟨none, none, (.st 4 (.t 11) (.t 80))⟩]) (.seq (.seq 
  (.reg true [[], [0], [1], [2], [2], [4, 2], [3, 5, 2], [6, 2], [7, 2], [2], [9, 2], [8, 10, 2], [2, 11], [12, 2], [13], [14, 13], [15, 13, 13], [16, 13], [13, 17]] [⟨(some 81), none, (.mv (.t 10))⟩,
    ⟨(some 82), none, (.bin .gtr (.t 81) (.k (.lit (.int .i64 0))))⟩,
    ⟨(some 83), none, (.mv (.t 82))⟩,
    ⟨(some 84), (some (83, true)), (.mv (.t 8))⟩,
    ⟨(some 85), (some (83, true)), (.mv (.t 10))⟩,
    ⟨(some 86), (some (83, true)), (.bin .sub (.t 85) (.k (.lit (.int .i64 1))))⟩,
    ⟨(some 87), (some (83, true)), (.iad 4 (.t 84) (.t 86))⟩,
    ⟨(some 88), (some (83, true)), (.fad 0 (.t 87))⟩,
    ⟨(some 89), (some (83, true)), (.ld false 1 (.t 88))⟩,
    ⟨(some 90), (some (83, true)), (.fad 0 (.t 11))⟩,
    ⟨(some 91), (some (83, true)), (.ld false 1 (.t 90))⟩,
    ⟨(some 92), (some (83, true)), (.bin .gtr (.t 89) (.t 91))⟩,
    ⟨(some 93), none, (.pick (.t 83) (.t 92) (.k (.lit (.bool false))))⟩,
    ⟨(some 94), none, (.mv (.t 93))⟩,
    ⟨(some 95), (some (94, false)), (.fad 1 (.t 11))⟩,
    ⟨(some 96), (some (94, false)), (.ld true 3 (.t 95))⟩,
    ⟨(some 97), (some (94, false)), (.call 27 [(.t 96)])⟩,
    ⟨(some 98), (some (94, false)), (.bin .leq (.t 97) (.k (.lit (.int .i64 0))))⟩,
    ⟨(some 99), none, (.pick (.t 94) (.k (.lit (.bool true))) (.t 98))⟩]) (.cond (.t 99) (.seq 
  (.reg false [] [⟨(some 2), none, (.mv (.k (.lit (.bool false))))⟩]) .ret) .skip)) (.seq 
  (.reg false [] [⟨(some 100), none, (.ld true 3 (.t 9))⟩,
    ⟨(some 101), none, (.fad 1 (.t 11))⟩,
    ⟨(some 102), none, (.ld true 3 (.t 101))⟩,
    ⟨(some 103), none, (.call 26 [(.t 100), (.t 102)])⟩,
    ⟨none, none, (.st 3 (.t 9) (.t 103))⟩]) (.seq 
  (.reg false [] [⟨(some 12), none, (.mv (.k (.lit (.bool false))))⟩]) (.seq (.seq 
  (.reg false [] [⟨(some 104), none, (.mv (.t 4))⟩,
    ⟨(some 105), none, (.len (.t 104))⟩,
    ⟨(some 106), none, (.mv (.k (.lit (.int .i64 0))))⟩]) (.block 4 (.loop (.seq 
  (.reg false [] [⟨(some 107), none, (.bin .lss (.t 106) (.t 105))⟩]) (.seq (.cond (.t 107) .skip (.exit 4)) (.seq (.block 5 (.seq 
  (.reg false [] [⟨(some 108), none, (.iad 4 (.t 104) (.t 106))⟩,
    ⟨(some 109), none, (.ld true 4 (.t 108))⟩,
    ⟨(some 14), none, (.new [(.lit (.int .i64 0)), (.lit (.bool false)), (.lit (.slice none 0 0)), (.lit (.slice none 0 0))])⟩,
    ⟨none, none, (.st 4 (.t 14) (.t 109))⟩]) 
  (.reg true [[], [0], [1], [2, 1], [1], [4, 1], [3, 5, 1], [6, 1, 1], [7], [8, 7], [7], [9, 10, 7, 7], [7], [12, 7], [11, 13, 11, 7], [7, 14, 1], [1, 15], [16, 14, 0, 1, 2, 3, 4, 5, 6, 7, 8, 9, 10, 11, 12, 13, 14, 15, 16]] [⟨(some 110), none, (.mv (.t 12))⟩,
    ⟨(some 111), none, (.mv (.t 110))⟩,
    ⟨(some 112), (some (111, false)), (.fad 0 (.t 14))⟩,
    ⟨(some 113), (some (111, false)), (.ld false 1 (.t 112))⟩,
    ⟨(some 114), (some (111, false)), (.fad 0 (.t 11))⟩,
    ⟨(some 115), (some (111, false)), (.ld false 1 (.t 114))⟩,
    ⟨(some 116), (some (111, false)), (.bin .eql (.t 113) (.t 115))⟩,
    ⟨(some 117), (some (111, false)), (.mv (.t 116))⟩,
    ⟨(some 118), (some (117, true)), (.fad 1 (.t 11))⟩,
    ⟨(some 119), (some (117, true)), (.ld true 3 (.t 118))⟩,
    ⟨(some 120), (some (117, true)), (.ld true 3 (.t 3))⟩,
    ⟨(some 121), (some (117, true)), (.call 24 [(.t 119), (.t 120)])⟩,
    ⟨(some 122), (some (117, true)), (.fad 1 (.t 14))⟩,
    ⟨(some 123), (some (117, true)), (.ld true 3 (.t 122))⟩,
    ⟨(some 124), (some (117, true)), (.call 13 [(.t 121), (.t 123)])⟩,
    ⟨(some 125), (some (111, false)), (.pick (.t 117) (.t 124) (.k (.lit (.bool false))))⟩,
    ⟨(some 126), none, (.pick (.t 111) (.k (.lit (.bool true))) (.t 125))⟩,
    ⟨(some 12), none, (.mv (.t 126))⟩]))) 
  (.reg false [] [⟨(some 127), none, (.bin .add (.t 106) (.k (.lit (.int .i64 1))))⟩,
    ⟨(some 106), none, (.mv (.t 127))⟩]))))))) (.seq 
  (.reg false [] [⟨(some 128), none, (.mv (.t 12))⟩,
    ⟨(some 129), none, (.un .not (.t 128))⟩]) (.cond (.t 129) (.seq 
  (.reg false [] [⟨(some 2), none, (.mv (.k (.lit (.bool false))))⟩]) .ret) .skip)))))))) 
  (.reg false [] [⟨(some 130), none, (.bin .add (.t 76) (.k (.lit (.int .i64 1))))⟩,
    ⟨(some 76), none, (.mv (.t 130))⟩]))))))) (.seq 
  (.reg false [] [⟨(some 15), none, (.mv (.k (.lit (.int .i64 0))))⟩]) (.seq (.seq 
  (.reg false [] [⟨(some 131), none, (.mv (.t 4))⟩,
    ⟨(some 132), none, (.len (.t 131))⟩,
    ⟨(some 133), none, (.mv (.k (.lit (.int .i64 0))))⟩]) (.block 6 (.loop (.seq 
  (.reg false [] [⟨(some 134), none, (.bin .lss (.t 133) (.t 132))⟩]) (.seq (.cond (.t 134) .skip (.exit 6)) (.seq (.block 7 (.seq 
  (.reg false [] [⟨(some 135), none, (.iad 4 (.t 131) (.t 133))⟩,
    ⟨(some 136), none, (.ld true 4 (.t 135))⟩,
    ⟨(some 17), none, (.new [(.lit (.int .i64 0)), (.lit (.bool false)), (.lit (.slice none 0 0)), (.lit (.slice none 0 0))])⟩,
    ⟨none, none, (.st 4 (.t 17) (.t 136))⟩]) (.seq 
  (.reg false [] [⟨(some 137), none, (.fad 1 (.t 17))⟩,
    ⟨(some 138), none, (.ld true 3 (.t 137))⟩,
    ⟨(some 139), none, (.call 27 [(.t 138)])⟩,
    ⟨(some 140), none, (.bin .gtr (.t 139) (.k (.lit (.int .i64 0))))⟩]) (.cond (.t 140) 
  (.reg false [] [⟨(some 141), none, (.mv (.t 15))⟩,
    ⟨(some 142), none, (.bin .add (.t 141) (.k (.lit (.int .i64 1))))⟩,
    ⟨(some 15), none, (.mv (.t 142))⟩]) .skip)))) 
  (.reg false [] [⟨(some 143), none, (.bin .add (.t 133) (.k (.lit (.int .i64 1))))⟩,
    ⟨(some 133), none, (.mv (.t 143))⟩]))))))) (.seq 
  (.reg true [[], [], [1], [0, 2], [3], [4], [4, 4], [5, 6, 6, 4], [4, 7], [8, 7, 0, 1, 2, 3, 4, 5, 6, 7, 8]] [⟨(some 144), none, (.mv (.t 15))⟩,
    ⟨(some 145), none, (.mv (.t 8))⟩,
    ⟨(some 146), none, (.len (.t 145))⟩,
    ⟨(some 147), none, (.bin .eql (.t 144) (.t 146))⟩,
    ⟨(some 148), none, (.mv (.t 147))⟩,
    ⟨(some 149), (some (148, true)), (.ld true 3 (.t 9))⟩,
    ⟨(some 150), (some (148, true)), (.call 16 [(.k (.lit (.int .i64 1)))])⟩,
    ⟨(some 151), (some (148, true)), (.call 13 [(.t 149), (.t 150)])⟩,
    ⟨(some 152), none, (.pick (.t 148) (.t 151) (.k (.lit (.bool false))))⟩,
    ⟨(some 2), none, (.mv (.t 152))⟩]) .ret)))))))))))))
theorem cf5 : compF Tryz.prog 5 = some ⟨153, ac5, [(.tmp 2)]⟩ := by kernel_rfl
end Iso

/- The runner: short words for its tables. Nothing of a program. -/
namespace Iso
open Go
abbrev kN (n : Int) : Opd := .k (.lit (.int .i64 n))
abbrev kZ : Opd := .k (.lit (.int .i64 0))
abbrev zN (n : Int) : V := .lit (.int .i64 n)
abbrev sZ : V := .lit (.slice none 0 0)
abbrev bF : V := .lit (.bool false)
abbrev bT : V := .lit (.bool true)
abbrev xC (d : Nat) (i : I) : CI := ⟨some d, none, i⟩
abbrev xU (d : Nat) (i : I) : CI × Fx := (⟨some d, none, i⟩, ⟨[], none, false, false⟩)
abbrev xV (d : Nat) (i : I) : CI × Fx := (⟨some d, none, i⟩, ⟨[], none, true, false⟩)
end Iso

/- The code of functions, as the runner wants it. -/
namespace Iso
open Go Go.Proofs
/-- isohyet/frac.Same -/
def fe13 : FE := ⟨9, (.seq (.reg [2, 3] [xC 2 (.box (.t 0)),
 xC 3 (.box (.t 1)),
 xC 4 (.mv (.k bF))])
 (.seq (.reg [] [xC 5 (.ld true 3 (.t 2)),
 xC 6 (.ld true 3 (.t 3)),
 xC 7 (.call 43 [(.t 5), (.t 6)]),
 xC 8 (.bin .eql (.t 7) kZ),
 xC 4 (.mv (.t 8))])
 .ret)), [(.tmp 4)], [], true⟩
theorem hb13 : hasBody Tryz.prog 13 = true := by kernel_rfl
theorem fk13 : FEOK Tryz.prog 13 fe13 := ⟨by kernel_rfl, by kernel_rfl, hb13⟩
/-- isohyet/spot.Of -/
def fe15 : FE := ⟨10, (.seq (.reg [1, 2] [xC 1 (.box (.t 0)),
 xC 2 (.new [bF, sZ, sZ, bF, sZ, sZ])])
 (.seq (.regd [] [[], [0], [1], [], [3], [4, 2], [2, 5], [6, 5, 0, 1, 2, 3, 4, 5, 6]] [(xC 3 (.fad 0 (.t 1)), ⟨[1], none, false, false⟩),
 (xC 4 (.ld false 1 (.t 3)), ⟨[1], none, false, false⟩),
 xV 5 (.call 16 [(.t 4)]),
 (xC 6 (.fad 1 (.t 1)), ⟨[1], none, false, false⟩),
 (xC 7 (.ld false 1 (.t 6)), ⟨[1], none, false, false⟩),
 xV 8 (.call 16 [(.t 7)]),
 xU 9 (.bld [bF, sZ, sZ, bF, sZ, sZ] [(0, (3, (.t 5))), (3, (3, (.t 8)))]),
 (⟨none, none, (.st 6 (.t 2) (.t 9))⟩, ⟨[2], some 2, false, false⟩)])
 .ret)), [(.cell 2 true 6)], [], true⟩
theorem hb15 : hasBody Tryz.prog 15 = true := by kernel_rfl
theorem fk15 : FEOK Tryz.prog 15 fe15 := ⟨by kernel_rfl, by kernel_rfl, hb15⟩
/-- isohyet/frac.Of -/
def fe16 : FE := ⟨6, (.seq (.reg [2] [xC 2 (.new [bF, sZ, sZ])])
 (.seq (.reg [] [xC 3 (.mv (.t 0)),
 xC 4 (.call 45 [(.t 3)]),
 xC 5 (.call 44 [(.t 4)]),
 ⟨none, none, (.st 3 (.t 2) (.t 5))⟩])
 .ret)), [(.cell 2 true 3)], [], true⟩
theorem hb16 : hasBody Tryz.prog 16 = true := by kernel_rfl
theorem fk16 : FEOK Tryz.prog 16 fe16 := ⟨by kernel_rfl, by kernel_rfl, hb16⟩
/-- isohyet/cavity.Dig -/
def fe19 : FE := ⟨209, (.seq (.reg [4, 5, 6] [xC 4 (.box (.t 1)),
 xC 5 (.box (.t 2)),
 xC 6 (.new [sZ, sZ, bF])])
 (.seq (.reg [7] [xC 24 (.fad 1 (.t 5)),
 xC 25 (.ld false 1 (.t 24)),
 xC 26 (.bsl 1 1 [(zN 0)] [(0, (1, (.t 25)))]),
 xC 27 (.bld [sZ, sZ, bF] [(0, (1, (.t 26)))]),
 xC 7 (.new [sZ, sZ, bF]),
 ⟨none, none, (.st 3 (.t 7) (.t 27))⟩])
 (.seq (.seq (.reg [] [xC 28 (.fad 0 (.t 5)),
 xC 29 (.ld false 1 (.t 28)),
 xC 30 (.bin .eql (.t 29) (kN 1))])
 (.cond (.t 30) (.regd [] [[], [0], [], [], [3], [], [5], [], [7], [2, 4, 6, 8], [9], [1, 10, 9], [0, 1, 2, 3, 4, 5, 6, 7, 8, 9, 10, 11], [12, 11, 11, 0, 1, 2, 3, 4, 5, 6, 7, 8, 9, 10, 11]] [(xC 31 (.fad 0 (.t 7)), ⟨[7], none, false, false⟩),
 (xC 32 (.ld false 1 (.t 31)), ⟨[7], none, false, false⟩),
 xU 33 (.mv (.t 0)),
 (xC 34 (.fad 1 (.t 5)), ⟨[5], none, false, false⟩),
 (xC 35 (.ld false 1 (.t 34)), ⟨[5], none, false, false⟩),
 (xC 36 (.fad 2 (.t 5)), ⟨[5], none, false, false⟩),
 (xC 37 (.ld false 1 (.t 36)), ⟨[5], none, false, false⟩),
 (xC 38 (.fad 3 (.t 5)), ⟨[5], none, false, false⟩),
 (xC 39 (.ld false 1 (.t 38)), ⟨[5], none, false, false⟩),
 xV 40 (.call 51 [(.t 33), (.t 35), (.t 37), (.t 39)]),
 xU 41 (.bsl 1 1 [(zN 0)] [(0, (1, (.t 40)))]),
 (xC 42 (.app 1 8 (.t 32) (.t 41)), ⟨[], none, true, true⟩),
 (xC 43 (.fad 0 (.t 7)), ⟨[7], none, false, false⟩),
 (⟨none, none, (.st 1 (.t 43) (.t 42))⟩, ⟨[7], some 7, false, false⟩)]) .skip))
 (.seq (.reg [] [⟨(some 44), none, .mkm⟩,
 xC 8 (.mv (.t 44))])
 (.seq (.seq (.reg [] [xC 45 (.fad 0 (.t 7)),
 xC 46 (.ld false 1 (.t 45)),
 xC 47 (.len (.t 46)),
 xC 48 (.mv kZ)])
 (.block 0 (.loop (.seq (.reg [] [xC 49 (.bin .lss (.t 48) (.t 47))])
 (.seq (.cond (.t 49) .skip (.exit 0))
 (.seq (.block 1 (.seq (.reg [] [xC 50 (.iad 1 (.t 46) (.t 48)),
 xC 51 (.ld false 1 (.t 50)),
 xC 10 (.mv (.t 51))])
 (.reg [] [xC 52 (.mv (.t 8)),
 xC 53 (.mv (.t 10)),
 ⟨none, none, (.mup none (.t 52) (.t 53) (.k bT))⟩])))
 (.reg [] [xC 54 (.bin .add (.t 48) (kN 1)),
 xC 48 (.mv (.t 54))])))))))
 (.seq (.seq (.reg [] [xC 11 (.mv kZ)])
 (.block 2 (.loop (.seq (.seq (.reg [] [xC 55 (.mv (.t 11)),
 xC 56 (.fad 0 (.t 7)),
 xC 57 (.ld false 1 (.t 56)),
 xC 58 (.len (.t 57)),
 xC 59 (.bin .lss (.t 55) (.t 58))])
 (.cond (.t 59) .skip (.exit 2)))
 (.seq (.block 3 (.seq (.regd [12] [[], [0], [1], [2], [], [4], [], [5, 6], [7], [3, 8], [9], [], [11, 10, 0, 1, 2, 3, 4, 5, 6, 7, 8, 9, 10, 11]] [xU 62 (.mv (.t 0)),
 xU 63 (.nck (.t 62)),
 xU 64 (.fad 1 (.t 63)),
 xV 65 (.ld false 1 (.t 64)),
 (xC 66 (.fad 0 (.t 7)), ⟨[7], none, false, false⟩),
 (xC 67 (.ld false 1 (.t 66)), ⟨[7], none, false, false⟩),
 xU 68 (.mv (.t 11)),
 xU 69 (.iad 1 (.t 67) (.t 68)),
 xV 70 (.ld false 1 (.t 69)),
 xU 71 (.iad 9 (.t 65) (.t 70)),
 xV 72 (.ld true 9 (.t 71)),
 (xC 12 (.new [(zN 0), (zN 0), (zN 0), (zN 0), (zN 0), (zN 0), bF, bF, bF]), ⟨[12], some 12, false, false⟩),
 (⟨none, none, (.st 9 (.t 12) (.t 72))⟩, ⟨[12], some 12, false, false⟩)])
 (.seq (.reg [] [xC 73 (.fad 3 (.t 12)),
 xC 74 (.ld true 3 (.t 73)),
 xC 75 (.mv kZ)])
 (.block 4 (.loop (.seq (.reg [] [xC 76 (.bin .lss (.t 75) (kN 3))])
 (.seq (.cond (.t 76) .skip (.exit 4))
 (.seq (.block 5 (.seq (.reg [] [xC 77 (.mv (.t 75)),
 xC 78 (.ixa 3 1 false (.t 74) (.t 75)),
 xC 13 (.mv (.t 77)),
 xC 14 (.mv (.t 78))])
 (.seq (.reg [] [xC 79 (.mv (.t 8)),
 xC 80 (.mv (.t 14)),
 xC 81 (.lku none bF false (.t 79) (.t 80)),
 xC 82 (.un .not (.t 81)),
 xC 83 (.mv (.t 82)),
 ⟨(some 84), (some (83, true)), (.mv (.t 13))⟩,
 ⟨(some 85), (some (83, true)), (.fad 6 (.t 12))⟩,
 ⟨(some 86), (some (83, true)), (.iaa 3 1 (.t 85) (.t 84))⟩,
 ⟨(some 87), (some (83, true)), (.ld false 1 (.t 86))⟩,
 ⟨(some 88), (some (83, true)), (.un .not (.t 87))⟩,
 xC 89 (.pick (.t 83) (.t 88) (.k bF)),
 xC 90 (.mv (.t 89)),
 ⟨(some 91), (some (90, true)), (.mv (.t 0))⟩,
 ⟨(some 92), (some (90, true)), (.mv (.t 14))⟩,
 ⟨(some 93), (some (90, true)), (.ld true 2 (.t 4))⟩,
 ⟨(some 94), (some (90, true)), (.call 52 [(.t 91), (.t 92), (.t 93)])⟩,
 xC 95 (.pick (.t 90) (.t 94) (.k bF))])
 (.cond (.t 95) (.seq (.reg [] [xC 96 (.mv (.t 8)),
 xC 97 (.mv (.t 14)),
 ⟨none, none, (.mup none (.t 96) (.t 97) (.k bT))⟩])
 (.reg [] [xC 98 (.fad 0 (.t 7)),
 xC 99 (.ld false 1 (.t 98)),
 xC 100 (.mv (.t 14)),
 xC 101 (.bsl 1 1 [(zN 0)] [(0, (1, (.t 100)))]),
 xC 102 (.app 1 8 (.t 99) (.t 101)),
 xC 103 (.fad 0 (.t 7)),
 ⟨none, none, (.st 1 (.t 103) (.t 102))⟩])) .skip))))
 (.reg [] [xC 104 (.bin .add (.t 75) (kN 1)),
 xC 75 (.mv (.t 104))])))))))))
 (.reg [] [xC 60 (.mv (.t 11)),
 xC 61 (.bin .add (.t 60) (kN 1)),
 xC 11 (.mv (.t 61))]))))))
 (.seq (.reg [] [xC 105 (.fad 0 (.t 7)),
 xC 106 (.ld false 1 (.t 105)),
 xC 107 (.call 53 [(.t 106)])])
 (.seq (.reg [] [⟨(some 108), none, .mkm⟩,
 xC 15 (.mv (.t 108))])
 (.seq (.reg [] [xC 109 (.mv (.t 0)),
 xC 110 (.nck (.t 109)),
 xC 111 (.fad 0 (.t 110)),
 xC 112 (.ld false 1 (.t 111)),
 xC 113 (.len (.t 112)),
 xC 16 (.mv (.t 113))])
 (.seq (.seq (.reg [] [xC 114 (.fad 0 (.t 7)),
 xC 115 (.ld false 1 (.t 114)),
 xC 116 (.len (.t 115)),
 xC 117 (.mv kZ)])
 (.block 6 (.loop (.seq (.reg [] [xC 118 (.bin .lss (.t 117) (.t 116))])
 (.seq (.cond (.t 118) .skip (.exit 6))
 (.seq (.block 7 (.seq (.reg [] [xC 119 (.iad 1 (.t 115) (.t 117)),
 xC 120 (.ld false 1 (.t 119)),
 xC 18 (.mv (.t 120))])
 (.seq (.reg [19] [xC 121 (.mv (.t 0)),
 xC 122 (.nck (.t 121)),
 xC 123 (.fad 1 (.t 122)),
 xC 124 (.ld false 1 (.t 123)),
 xC 125 (.mv (.t 18)),
 xC 126 (.iad 9 (.t 124) (.t 125)),
 xC 127 (.ld true 9 (.t 126)),
 xC 19 (.new [(zN 0), (zN 0), (zN 0), (zN 0), (zN 0), (zN 0), bF, bF, bF]),
 ⟨none, none, (.st 9 (.t 19) (.t 127))⟩])
 (.seq (.reg [] [xC 128 (.fad 3 (.t 19)),
 xC 129 (.ld true 3 (.t 128)),
 xC 130 (.mv kZ)])
 (.block 8 (.loop (.seq (.reg [] [xC 131 (.bin .lss (.t 130) (kN 3))])
 (.seq (.cond (.t 131) .skip (.exit 8))
 (.seq (.block 9 (.seq (.reg [] [xC 132 (.mv (.t 130)),
 xC 133 (.ixa 3 1 false (.t 129) (.t 130)),
 xC 20 (.mv (.t 132)),
 xC 21 (.mv (.t 133))])
 (.seq (.seq (.reg [] [xC 134 (.mv (.t 8)),
 xC 135 (.mv (.t 21)),
 xC 136 (.lku none bF false (.t 134) (.t 135))])
 (.cond (.t 136) (.exit 9) .skip))
 (.seq (.regd [22] [[], [0], [1], [], [3, 2], [4], [], [6], [7], [], [9, 8], [10], [], [], [], [14, 13], [15], [5, 11, 12, 16], [], [18, 17, 0, 1, 2, 3, 4, 5, 6, 7, 8, 9, 10, 11, 12, 13, 14, 15, 16, 17, 18]] [xU 137 (.mv (.t 20)),
 xU 138 (.bin .add (.t 137) (kN 1)),
 xU 139 (.bin .rem (.t 138) (kN 3)),
 (xC 140 (.fad 0 (.t 19)), ⟨[19], none, false, false⟩),
 (xC 141 (.iaa 3 1 (.t 140) (.t 139)), ⟨[19], none, false, false⟩),
 (xC 142 (.ld false 1 (.t 141)), ⟨[19], none, false, false⟩),
 xU 143 (.mv (.t 20)),
 xU 144 (.bin .add (.t 143) (kN 2)),
 xU 145 (.bin .rem (.t 144) (kN 3)),
 (xC 146 (.fad 0 (.t 19)), ⟨[19], none, false, false⟩),
 (xC 147 (.iaa 3 1 (.t 146) (.t 145)), ⟨[19], none, false, false⟩),
 (xC 148 (.ld false 1 (.t 147)), ⟨[19], none, false, false⟩),
 xU 149 (.mv (.t 21)),
 xU 150 (.mv (.t 20)),
 (xC 151 (.fad 6 (.t 19)), ⟨[19], none, false, false⟩),
 (xC 152 (.iaa 3 1 (.t 151) (.t 150)), ⟨[19], none, false, false⟩),
 (xC 153 (.ld false 1 (.t 152)), ⟨[19], none, false, false⟩),
 xU 154 (.bld [(zN 0), (zN 0), (zN 0), (zN 0), bF] [(0, (1, (.t 142))), (1, (1, (.t 148))), (2, (1, (.t 149))), (4, (1, (.t 153)))]),
 (xC 22 (.new [(zN 0), (zN 0), (zN 0), (zN 0), bF]), ⟨[22], some 22, false, false⟩),
 (⟨none, none, (.st 5 (.t 22) (.t 154))⟩, ⟨[22], some 22, false, false⟩)])
 (.seq (.reg [] [xC 155 (.mv (.t 0)),
 xC 156 (.nck (.t 155)),
 xC 157 (.fad 1 (.t 156)),
 xC 158 (.ld false 1 (.t 157)),
 xC 159 (.mv (.t 21)),
 xC 160 (.iad 9 (.t 158) (.t 159)),
 xC 161 (.fad 3 (.t 160)),
 xC 162 (.sla 3 1 (.t 161) none none),
 xC 163 (.mv (.t 18)),
 xC 164 (.call 54 [(.t 162), (.t 163)]),
 xC 165 (.fad 3 (.t 22)),
 ⟨none, none, (.st 1 (.t 165) (.t 164))⟩])
 (.seq (.reg [] [xC 166 (.mv (.t 15)),
 xC 167 (.fad 0 (.t 22)),
 xC 168 (.ld false 1 (.t 167)),
 xC 169 (.ld true 5 (.t 22)),
 ⟨none, none, (.mup none (.t 166) (.t 168) (.t 169))⟩])
 (.seq (.reg [] [xC 170 (.mv (.t 16)),
 xC 171 (.fad 0 (.t 22)),
 xC 172 (.ld false 1 (.t 171)),
 xC 173 (.mnx false [(.t 170), (.t 172)]),
 xC 16 (.mv (.t 173))])
 (.reg [] [xC 174 (.fad 2 (.t 7)),
 xC 175 (.ld false 1 (.t 174)),
 xC 176 (.mv (.t 175)),
 ⟨(some 177), (some (176, false)), (.fad 4 (.t 22))⟩,
 ⟨(some 178), (some (176, false)), (.ld false 1 (.t 177))⟩,
 ⟨(some 179), (some (176, false)), (.mv (.t 178))⟩,
 ⟨(some 180), (some (179, true)), (.mv (.t 0))⟩,
 ⟨(some 181), (some (179, true)), (.mv (.t 21))⟩,
 ⟨(some 182), (some (179, true)), (.ld true 2 (.t 4))⟩,
 ⟨(some 183), (some (179, true)), (.call 52 [(.t 180), (.t 181), (.t 182)])⟩,
 ⟨(some 184), (some (176, false)), (.pick (.t 179) (.t 183) (.k bF))⟩,
 xC 185 (.pick (.t 176) (.k bT) (.t 184)),
 xC 186 (.fad 2 (.t 7)),
 ⟨none, none, (.st 1 (.t 186) (.t 185))⟩]))))))))
 (.reg [] [xC 187 (.bin .add (.t 130) (kN 1)),
 xC 130 (.mv (.t 187))]))))))))))
 (.reg [] [xC 188 (.bin .add (.t 117) (kN 1)),
 xC 117 (.mv (.t 188))])))))))
 (.seq (.seq (.reg [] [xC 189 (.mv (.t 16)),
 xC 23 (.mv (.t 189))])
 (.block 10 (.loop (.seq (.seq (.reg [] [xC 190 (.fad 1 (.t 7)),
 xC 191 (.ld false 1 (.t 190)),
 xC 192 (.len (.t 191)),
 xC 193 (.mv (.t 15)),
 xC 194 (.lenm (.t 193)),
 xC 195 (.bin .lss (.t 192) (.t 194))])
 (.cond (.t 195) .skip (.exit 10)))
 (.seq (.block 11 (.reg [] [xC 200 (.fad 1 (.t 7)),
 xC 201 (.ld false 1 (.t 200)),
 xC 202 (.mv (.t 15)),
 xC 203 (.mv (.t 23)),
 xC 204 (.lku none (.agg [(zN 0), (zN 0), (zN 0), (zN 0), bF]) false (.t 202) (.t 203)),
 xC 205 (.bsl 1 5 [(zN 0), (zN 0), (zN 0), (zN 0), bF] [(0, (5, (.t 204)))]),
 xC 206 (.app 5 40 (.t 201) (.t 205)),
 xC 207 (.fad 1 (.t 7)),
 ⟨none, none, (.st 1 (.t 207) (.t 206))⟩]))
 (.reg [] [xC 196 (.mv (.t 15)),
 xC 197 (.mv (.t 23)),
 xC 198 (.lku none (.agg [(zN 0), (zN 0), (zN 0), (zN 0), bF]) false (.t 196) (.t 197)),
 xC 199 (.fld 1 1 false (.t 198)),
 xC 23 (.mv (.t 199))]))))))
 (.seq (.reg [] [xC 208 (.ld true 3 (.t 7)),
 ⟨none, none, (.st 3 (.t 6) (.t 208))⟩])
 .ret)))))))))))), [(.cell 6 true 3)], [26], true⟩
theorem hb19 : hasBody Tryz.prog 19 = true := by kernel_rfl
theorem fk19 : FEOK Tryz.prog 19 fe19 := ⟨by kernel_rfl, by kernel_rfl, hb19⟩
/-- isohyet/spot.Centre -/
def fe21 : FE := ⟨90, (.seq (.reg [3, 4, 5, 6] [xC 3 (.box (.t 0)),
 xC 4 (.box (.t 1)),
 xC 5 (.box (.t 2)),
 xC 6 (.new [bF, sZ, sZ, bF, sZ, sZ]),
 xC 7 (.mv (.k bF))])
 (.seq (.regd [8, 9] [[], [0], [], [2], [1, 3], [4], [], [6], [], [8], [7, 9], [10, 5], [], [], [12, 5, 11, 0, 1, 2, 3, 4, 5, 12, 13], [13, 11, 14, 0, 1, 2, 3, 4, 5, 6, 7, 8, 9, 10, 11, 12, 13, 14]] [(xC 19 (.fad 0 (.t 4)), ⟨[4], none, false, false⟩),
 (xC 20 (.ld false 1 (.t 19)), ⟨[4], none, false, false⟩),
 (xC 21 (.fad 0 (.t 3)), ⟨[3], none, false, false⟩),
 (xC 22 (.ld false 1 (.t 21)), ⟨[3], none, false, false⟩),
 xU 23 (.bin .sub (.t 20) (.t 22)),
 xV 24 (.call 45 [(.t 23)]),
 (xC 25 (.fad 1 (.t 4)), ⟨[4], none, false, false⟩),
 (xC 26 (.ld false 1 (.t 25)), ⟨[4], none, false, false⟩),
 (xC 27 (.fad 1 (.t 3)), ⟨[3], none, false, false⟩),
 (xC 28 (.ld false 1 (.t 27)), ⟨[3], none, false, false⟩),
 xU 29 (.bin .sub (.t 26) (.t 28)),
 xV 30 (.call 45 [(.t 29)]),
 (xC 8 (.new [bF, sZ]), ⟨[8], some 8, false, false⟩),
 (xC 9 (.new [bF, sZ]), ⟨[9], some 9, false, false⟩),
 (⟨none, none, (.st 2 (.t 8) (.t 24))⟩, ⟨[8], some 8, false, false⟩),
 (⟨none, none, (.st 2 (.t 9) (.t 30))⟩, ⟨[9], some 9, false, false⟩)])
 (.seq (.regd [10, 11] [[], [0], [], [2], [1, 3], [4], [], [6], [], [8], [7, 9], [10, 5], [], [], [12, 5, 11, 0, 1, 2, 3, 4, 5, 12, 13], [13, 11, 14, 0, 1, 2, 3, 4, 5, 6, 7, 8, 9, 10, 11, 12, 13, 14]] [(xC 31 (.fad 0 (.t 5)), ⟨[5], none, false, false⟩),
 (xC 32 (.ld false 1 (.t 31)), ⟨[5], none, false, false⟩),
 (xC 33 (.fad 0 (.t 3)), ⟨[3], none, false, false⟩),
 (xC 34 (.ld false 1 (.t 33)), ⟨[3], none, false, false⟩),
 xU 35 (.bin .sub (.t 32) (.t 34)),
 xV 36 (.call 45 [(.t 35)]),
 (xC 37 (.fad 1 (.t 5)), ⟨[5], none, false, false⟩),
 (xC 38 (.ld false 1 (.t 37)), ⟨[5], none, false, false⟩),
 (xC 39 (.fad 1 (.t 3)), ⟨[3], none, false, false⟩),
 (xC 40 (.ld false 1 (.t 39)), ⟨[3], none, false, false⟩),
 xU 41 (.bin .sub (.t 38) (.t 40)),
 xV 42 (.call 45 [(.t 41)]),
 (xC 10 (.new [bF, sZ]), ⟨[10], some 10, false, false⟩),
 (xC 11 (.new [bF, sZ]), ⟨[11], some 11, false, false⟩),
 (⟨none, none, (.st 2 (.t 10) (.t 36))⟩, ⟨[10], some 10, false, false⟩),
 (⟨none, none, (.st 2 (.t 11) (.t 42))⟩, ⟨[11], some 11, false, false⟩)])
 (.seq (.regd [12, 13] [[], [], [0, 1], [], [], [3, 4, 2], [], [], [6, 2, 5, 0, 1, 2, 6, 7], [7, 5, 8, 0, 1, 2, 3, 4, 5, 6, 7, 8]] [(xC 43 (.ld true 2 (.t 3)), ⟨[3], none, false, false⟩),
 (xC 44 (.ld true 2 (.t 4)), ⟨[4], none, false, false⟩),
 xV 45 (.call 55 [(.t 43), (.t 44)]),
 (xC 46 (.ld true 2 (.t 3)), ⟨[3], none, false, false⟩),
 (xC 47 (.ld true 2 (.t 5)), ⟨[5], none, false, false⟩),
 xV 48 (.call 55 [(.t 46), (.t 47)]),
 (xC 12 (.new [bF, sZ]), ⟨[12], some 12, false, false⟩),
 (xC 13 (.new [bF, sZ]), ⟨[13], some 13, false, false⟩),
 (⟨none, none, (.st 2 (.t 12) (.t 45))⟩, ⟨[12], some 12, false, false⟩),
 (⟨none, none, (.st 2 (.t 13) (.t 48))⟩, ⟨[13], some 13, false, false⟩)])
 (.seq (.regd [14] [[], [], [], [], [1, 2, 3, 0], [0, 4, 4], [], [6, 5, 5, 0, 1, 2, 3, 4, 5, 6]] [xV 49 (.call 45 [(kN 2)]),
 (xC 50 (.ld true 2 (.t 3)), ⟨[3], none, false, false⟩),
 (xC 51 (.ld true 2 (.t 4)), ⟨[4], none, false, false⟩),
 (xC 52 (.ld true 2 (.t 5)), ⟨[5], none, false, false⟩),
 xV 53 (.call 57 [(.t 50), (.t 51), (.t 52)]),
 xV 54 (.call 56 [(.t 49), (.t 53)]),
 (xC 14 (.new [bF, sZ]), ⟨[14], some 14, false, false⟩),
 (⟨none, none, (.st 2 (.t 14) (.t 54))⟩, ⟨[14], some 14, false, false⟩)])
 (.seq (.regd [15] [[], [], [], [], [0, 1, 2, 3], [], [4, 5, 4], [6], [7], [7], [], [10, 8, 6, 0, 1, 2, 3, 4, 5, 6, 7, 8, 10], [9, 11, 0, 1, 2, 3, 4, 5, 6, 7, 8, 9, 10, 11]] [(xC 56 (.ld true 2 (.t 12)), ⟨[12], none, false, false⟩),
 (xC 57 (.ld true 2 (.t 9)), ⟨[9], none, false, false⟩),
 (xC 58 (.ld true 2 (.t 13)), ⟨[13], none, false, false⟩),
 (xC 59 (.ld true 2 (.t 11)), ⟨[11], none, false, false⟩),
 xV 60 (.call 59 [(.t 56), (.t 57), (.t 58), (.t 59)]),
 (xC 61 (.ld true 2 (.t 14)), ⟨[14], none, false, false⟩),
 xV 62 (.call 58 [(.t 60), (.t 61)]),
 xU 55 (.mv (.t 62)),
 xU 63 (.ext (.t 55) 0),
 xU 64 (.ext (.t 55) 1),
 (xC 15 (.new [bF, sZ, sZ]), ⟨[15], some 15, false, false⟩),
 (⟨none, none, (.st 3 (.t 15) (.t 63))⟩, ⟨[15], some 15, false, false⟩),
 xU 16 (.mv (.t 64))])
 (.seq (.regd [17] [[], [], [], [], [0, 1, 2, 3], [], [4, 5, 4], [6], [7], [7], [], [10, 8, 6, 0, 1, 2, 3, 4, 5, 6, 7, 8, 10], [9, 11, 0, 1, 2, 3, 4, 5, 6, 7, 8, 9, 10, 11]] [(xC 66 (.ld true 2 (.t 8)), ⟨[8], none, false, false⟩),
 (xC 67 (.ld true 2 (.t 12)), ⟨[12], none, false, false⟩),
 (xC 68 (.ld true 2 (.t 10)), ⟨[10], none, false, false⟩),
 (xC 69 (.ld true 2 (.t 13)), ⟨[13], none, false, false⟩),
 xV 70 (.call 59 [(.t 66), (.t 67), (.t 68), (.t 69)]),
 (xC 71 (.ld true 2 (.t 14)), ⟨[14], none, false, false⟩),
 xV 72 (.call 58 [(.t 70), (.t 71)]),
 xU 65 (.mv (.t 72)),
 xU 73 (.ext (.t 65) 0),
 xU 74 (.ext (.t 65) 1),
 (xC 17 (.new [bF, sZ, sZ]), ⟨[17], some 17, false, false⟩),
 (⟨none, none, (.st 3 (.t 17) (.t 73))⟩, ⟨[17], some 17, false, false⟩),
 xU 18 (.mv (.t 74))])
 (.seq (.seq (.reg [] [xC 75 (.mv (.t 16)),
 xC 76 (.un .not (.t 75))])
 (.cond (.t 76) (.seq (.reg [] [xC 77 (.bld [(zN 0), (zN 0)] []),
 xC 78 (.call 15 [(.t 77)]),
 ⟨none, none, (.st 6 (.t 6) (.t 78))⟩,
 xC 7 (.mv (.k bF))])
 .ret) .skip))
 (.seq (.regd [] [[], [], [1], [2], [0, 3, 3], [], [], [6], [7, 4], [5, 8, 8], [4, 9], [10, 9, 0, 1, 2, 3, 4, 5, 6, 7, 8, 9, 10], [11, 0, 1, 2, 3, 4, 5, 6, 7, 8, 9, 10, 11]] [(xC 79 (.ld true 3 (.t 15)), ⟨[15], none, false, false⟩),
 (xC 80 (.fad 0 (.t 3)), ⟨[3], none, false, false⟩),
 (xC 81 (.ld false 1 (.t 80)), ⟨[3], none, false, false⟩),
 xV 82 (.call 16 [(.t 81)]),
 xV 83 (.call 26 [(.t 79), (.t 82)]),
 (xC 84 (.ld true 3 (.t 17)), ⟨[17], none, false, false⟩),
 (xC 85 (.fad 1 (.t 3)), ⟨[3], none, false, false⟩),
 (xC 86 (.ld false 1 (.t 85)), ⟨[3], none, false, false⟩),
 xV 87 (.call 16 [(.t 86)]),
 xV 88 (.call 26 [(.t 84), (.t 87)]),
 xU 89 (.bld [bF, sZ, sZ, bF, sZ, sZ] [(0, (3, (.t 83))), (3, (3, (.t 88)))]),
 (⟨none, none, (.st 6 (.t 6) (.t 89))⟩, ⟨[6], some 6, false, false⟩),
 xU 7 (.mv (.k bT))])
 .ret))))))))), [(.cell 6 true 6), (.tmp 7)], [], true⟩
theorem hb21 : hasBody Tryz.prog 21 = true := by kernel_rfl
theorem fk21 : FEOK Tryz.prog 21 fe21 := ⟨by kernel_rfl, by kernel_rfl, hb21⟩
/-- isohyet/frac.Sub -/
def fe22 : FE := ⟨9, (.seq (.reg [2, 3, 4] [xC 2 (.box (.t 0)),
 xC 3 (.box (.t 1)),
 xC 4 (.new [bF, sZ, sZ])])
 (.seq (.regd [] [[], [], [1], [0, 2, 2], [3, 3, 0, 1, 2, 3]] [(xC 5 (.ld true 3 (.t 2)), ⟨[2], none, false, false⟩),
 (xC 6 (.ld true 3 (.t 3)), ⟨[3], none, false, false⟩),
 xV 7 (.call 23 [(.t 6)]),
 xV 8 (.call 26 [(.t 5), (.t 7)]),
 (⟨none, none, (.st 3 (.t 4) (.t 8))⟩, ⟨[4], some 4, false, false⟩)])
 .ret)), [(.cell 4 true 3)], [], true⟩
theorem hb22 : hasBody Tryz.prog 22 = true := by kernel_rfl
theorem fk22 : FEOK Tryz.prog 22 fe22 := ⟨by kernel_rfl, by kernel_rfl, hb22⟩
/-- isohyet/frac.Neg -/
def fe23 : FE := ⟨9, (.seq (.reg [1, 2] [xC 1 (.box (.t 0)),
 xC 2 (.new [bF, sZ, sZ])])
 (.seq (.regd [] [[], [0], [1], [], [3, 2], [2, 4, 4], [5, 5, 0, 1, 2, 3, 4, 5]] [(xC 3 (.fad 0 (.t 1)), ⟨[1], none, false, false⟩),
 (xC 4 (.ld true 2 (.t 3)), ⟨[1], none, false, false⟩),
 xV 5 (.call 61 [(.t 4)]),
 (xC 6 (.ld true 3 (.t 1)), ⟨[1], none, false, false⟩),
 xV 7 (.call 62 [(.t 6)]),
 xV 8 (.call 60 [(.t 5), (.t 7)]),
 (⟨none, none, (.st 3 (.t 2) (.t 8))⟩, ⟨[2], some 2, false, false⟩)])
 .ret)), [(.cell 2 true 3)], [], true⟩
theorem hb23 : hasBody Tryz.prog 23 = true := by kernel_rfl
theorem fk23 : FEOK Tryz.prog 23 fe23 := ⟨by kernel_rfl, by kernel_rfl, hb23⟩
/-- isohyet/frac.Mul -/
def fe24 : FE := ⟨16, (.seq (.reg [2, 3, 4] [xC 2 (.box (.t 0)),
 xC 3 (.box (.t 1)),
 xC 4 (.new [bF, sZ, sZ])])
 (.seq (.regd [] [[], [0], [], [2], [1, 3], [], [5, 4], [], [7, 6], [6, 8, 8], [4, 9, 9], [10, 10, 0, 1, 2, 3, 4, 5, 6, 7, 8, 9, 10]] [(xC 5 (.fad 0 (.t 2)), ⟨[2], none, false, false⟩),
 (xC 6 (.ld true 2 (.t 5)), ⟨[2], none, false, false⟩),
 (xC 7 (.fad 0 (.t 3)), ⟨[3], none, false, false⟩),
 (xC 8 (.ld true 2 (.t 7)), ⟨[3], none, false, false⟩),
 xV 9 (.call 56 [(.t 6), (.t 8)]),
 (xC 10 (.ld true 3 (.t 2)), ⟨[2], none, false, false⟩),
 xV 11 (.call 62 [(.t 10)]),
 (xC 12 (.ld true 3 (.t 3)), ⟨[3], none, false, false⟩),
 xV 13 (.call 62 [(.t 12)]),
 xV 14 (.call 63 [(.t 11), (.t 13)]),
 xV 15 (.call 60 [(.t 9), (.t 14)]),
 (⟨none, none, (.st 3 (.t 4) (.t 15))⟩, ⟨[4], some 4, false, false⟩)])
 .ret)), [(.cell 4 true 3)], [], true⟩
theorem hb24 : hasBody Tryz.prog 24 = true := by kernel_rfl
theorem fk24 : FEOK Tryz.prog 24 fe24 := ⟨by kernel_rfl, by kernel_rfl, hb24⟩
/-- isohyet/isohyetlaw14.fit -/
def fe25 : FE := ⟨69, (.seq (.reg [] [xC 0 (.mv (.k bF))])
 (.seq (.reg [] [xC 7 (.bld [(zN 0), (zN 0)] []),
 xC 8 (.bld [(zN 0), (zN 0)] [(0, (1, (kN 2)))]),
 xC 9 (.bld [(zN 0), (zN 0)] [(0, (1, (kN 2))), (1, (1, (kN 2)))]),
 xC 10 (.bld [(zN 0), (zN 0)] [(1, (1, (kN 2)))]),
 xC 11 (.bsl 4 2 [(zN 0), (zN 0)] [(0, (2, (.t 7))), (2, (2, (.t 8))), (4, (2, (.t 9))), (6, (2, (.t 10)))]),
 xC 12 (.call 39 [(.t 11)]),
 xC 6 (.mv (.t 12)),
 xC 13 (.ext (.t 6) 0),
 xC 14 (.ext (.t 6) 1),
 xC 1 (.mv (.t 13)),
 xC 2 (.mv (.t 14))])
 (.seq (.seq (.reg [] [xC 15 (.mv (.t 2)),
 xC 16 (.un .not (.t 15)),
 xC 17 (.mv (.t 16)),
 ⟨(some 18), (some (17, false)), (.mv (.t 1))⟩,
 ⟨(some 19), (some (17, false)), (.eqn false (.t 18) (.k (.lit (.pointer none))))⟩,
 xC 20 (.pick (.t 17) (.k bT) (.t 19))])
 (.cond (.t 20) (.seq (.reg [] [xC 0 (.mv (.k bF))])
 .ret) .skip))
 (.seq (.reg [3] [xC 21 (.bld [(zN 0), (zN 0)] [(0, (1, (kN 1))), (1, (1, (kN 1)))]),
 xC 3 (.new [(zN 0), (zN 0)]),
 ⟨none, none, (.st 2 (.t 3) (.t 21))⟩])
 (.seq (.regd [4] [[], [], [], [], [2, 3], [0, 1, 4, 4], [], [6, 5, 5, 0, 1, 2, 3, 4, 5, 6]] [xU 22 (.mv (.t 1)),
 (xC 23 (.ld true 2 (.t 3)), ⟨[3], none, false, false⟩),
 xU 24 (.mv (.t 1)),
 (xC 25 (.ld true 2 (.t 3)), ⟨[3], none, false, false⟩),
 xV 26 (.call 40 [(.t 24), (.t 25)]),
 xV 27 (.call 19 [(.t 22), (.t 23), (.t 26)]),
 (xC 4 (.new [sZ, sZ, bF]), ⟨[4], some 4, false, false⟩),
 (⟨none, none, (.st 3 (.t 4) (.t 27))⟩, ⟨[4], some 4, false, false⟩)])
 (.seq (.reg [] [xC 28 (.mv (.t 1)),
 xC 29 (.ld true 2 (.t 3)),
 xC 30 (.ld true 3 (.t 4)),
 xC 31 (.call 36 [(.t 28), (.t 29), (.t 30)]),
 xC 5 (.mv (.t 31))])
 (.seq (.regd [] [[], [0], [1], [2], [3], [4, 3], [5, 3], [6, 3], [3], [8, 3], [9, 3], [10, 3], [7, 11, 3, 3], [3, 12], [13, 12], [14], [15, 14], [16, 14], [17, 14], [18, 14, 14], [19, 14], [14, 20], [21, 19], [22], [23, 22, 22], [24, 22], [25, 22], [22, 26], [27, 24], [28], [28], [28], [29, 30, 31, 28, 28], [32, 32, 28], [33, 28], [33, 34, 34, 28], [28, 35], [36, 35, 0, 1, 2, 3, 4, 5, 6, 7, 8, 9, 10, 11, 12, 13, 14, 15, 16, 17, 18, 19, 20, 21, 22, 23, 24, 25, 26, 27, 28, 29, 30, 31, 32, 33, 34, 35, 36]] [xU 32 (.mv (.t 5)),
 xU 33 (.len (.t 32)),
 xU 34 (.bin .eql (.t 33) (kN 4)),
 xU 35 (.mv (.t 34)),
 (⟨(some 36), (some (35, true)), (.mv (.t 5))⟩, ⟨[], none, false, false⟩),
 (⟨(some 37), (some (35, true)), (.iad 4 (.t 36) kZ)⟩, ⟨[], none, false, false⟩),
 (⟨(some 38), (some (35, true)), (.fad 1 (.t 37))⟩, ⟨[], none, false, false⟩),
 (⟨(some 39), (some (35, true)), (.ld true 3 (.t 38))⟩, ⟨[], none, true, false⟩),
 (⟨(some 40), (some (35, true)), (.mv (.t 5))⟩, ⟨[], none, false, false⟩),
 (⟨(some 41), (some (35, true)), (.iad 4 (.t 40) (kN 2))⟩, ⟨[], none, false, false⟩),
 (⟨(some 42), (some (35, true)), (.fad 1 (.t 41))⟩, ⟨[], none, false, false⟩),
 (⟨(some 43), (some (35, true)), (.ld true 3 (.t 42))⟩, ⟨[], none, true, false⟩),
 (⟨(some 44), (some (35, true)), (.call 13 [(.t 39), (.t 43)])⟩, ⟨[], none, true, false⟩),
 xU 45 (.pick (.t 35) (.t 44) (.k bF)),
 xU 46 (.mv (.t 45)),
 (⟨(some 47), (some (46, true)), (.mv (.t 5))⟩, ⟨[], none, false, false⟩),
 (⟨(some 48), (some (46, true)), (.iad 4 (.t 47) (kN 1))⟩, ⟨[], none, false, false⟩),
 (⟨(some 49), (some (46, true)), (.fad 1 (.t 48))⟩, ⟨[], none, false, false⟩),
 (⟨(some 50), (some (46, true)), (.ld true 3 (.t 49))⟩, ⟨[], none, true, false⟩),
 (⟨(some 51), (some (46, true)), (.call 27 [(.t 50)])⟩, ⟨[], none, true, false⟩),
 (⟨(some 52), (some (46, true)), (.bin .gtr (.t 51) kZ)⟩, ⟨[], none, false, false⟩),
 xU 53 (.pick (.t 46) (.t 52) (.k bF)),
 xU 54 (.mv (.t 53)),
 (⟨(some 55), (some (54, true)), (.mv (.t 5))⟩, ⟨[], none, false, false⟩),
 (⟨(some 56), (some (54, true)), (.call 28 [(.t 55)])⟩, ⟨[], none, true, false⟩),
 (⟨(some 57), (some (54, true)), (.len (.t 56))⟩, ⟨[], none, false, false⟩),
 (⟨(some 58), (some (54, true)), (.bin .eql (.t 57) (kN 4))⟩, ⟨[], none, false, false⟩),
 xU 59 (.pick (.t 54) (.t 58) (.k bF)),
 xU 60 (.mv (.t 59)),
 (⟨(some 61), (some (60, true)), (.mv (.t 1))⟩, ⟨[], none, false, false⟩),
 (⟨(some 62), (some (60, true)), (.ld true 2 (.t 3))⟩, ⟨[3], none, false, false⟩),
 (⟨(some 63), (some (60, true)), (.ld true 3 (.t 4))⟩, ⟨[4], none, false, false⟩),
 (⟨(some 64), (some (60, true)), (.call 38 [(.t 61), (.t 62), (.t 63)])⟩, ⟨[], none, true, false⟩),
 (⟨(some 65), (some (60, true)), (.call 37 [(.t 64)])⟩, ⟨[], none, true, false⟩),
 (⟨(some 66), (some (60, true)), (.call 16 [(kN 4)])⟩, ⟨[], none, true, false⟩),
 (⟨(some 67), (some (60, true)), (.call 13 [(.t 65), (.t 66)])⟩, ⟨[], none, true, false⟩),
 xU 68 (.pick (.t 60) (.t 67) (.k bF)),
 xU 0 (.mv (.t 68))])
 .ret))))))), [(.tmp 0)], [], true⟩
theorem hb25 : hasBody Tryz.prog 25 = true := by kernel_rfl
theorem fk25 : FEOK Tryz.prog 25 fe25 := ⟨by kernel_rfl, by kernel_rfl, hb25⟩
/-- isohyet/frac.Add -/
def fe26 : FE := ⟨24, (.seq (.reg [2, 3, 4] [xC 2 (.box (.t 0)),
 xC 3 (.box (.t 1)),
 xC 4 (.new [bF, sZ, sZ])])
 (.seq (.regd [5] [[], [0], [], [2], [1, 3, 3], [], [5], [], [7, 4], [6, 8, 8], [4, 9, 9], [], [11, 10, 10, 0, 1, 2, 3, 4, 5, 6, 7, 8, 9, 10, 11]] [(xC 6 (.fad 0 (.t 2)), ⟨[2], none, false, false⟩),
 (xC 7 (.ld true 2 (.t 6)), ⟨[2], none, false, false⟩),
 (xC 8 (.ld true 3 (.t 3)), ⟨[3], none, false, false⟩),
 xV 9 (.call 65 [(.t 8)]),
 xV 10 (.call 56 [(.t 7), (.t 9)]),
 (xC 11 (.fad 0 (.t 3)), ⟨[3], none, false, false⟩),
 (xC 12 (.ld true 2 (.t 11)), ⟨[3], none, false, false⟩),
 (xC 13 (.ld true 3 (.t 2)), ⟨[2], none, false, false⟩),
 xV 14 (.call 65 [(.t 13)]),
 xV 15 (.call 56 [(.t 12), (.t 14)]),
 xV 16 (.call 64 [(.t 10), (.t 15)]),
 (xC 5 (.new [bF, sZ]), ⟨[5], some 5, false, false⟩),
 (⟨none, none, (.st 2 (.t 5) (.t 16))⟩, ⟨[5], some 5, false, false⟩)])
 (.seq (.regd [] [[], [], [1], [], [3, 2], [2, 4, 4], [0, 5, 5], [6, 6, 0, 1, 2, 3, 4, 5, 6]] [(xC 17 (.ld true 2 (.t 5)), ⟨[5], none, false, false⟩),
 (xC 18 (.ld true 3 (.t 2)), ⟨[2], none, false, false⟩),
 xV 19 (.call 62 [(.t 18)]),
 (xC 20 (.ld true 3 (.t 3)), ⟨[3], none, false, false⟩),
 xV 21 (.call 62 [(.t 20)]),
 xV 22 (.call 63 [(.t 19), (.t 21)]),
 xV 23 (.call 60 [(.t 17), (.t 22)]),
 (⟨none, none, (.st 3 (.t 4) (.t 23))⟩, ⟨[4], some 4, false, false⟩)])
 .ret))), [(.cell 4 true 3)], [], true⟩
theorem hb26 : hasBody Tryz.prog 26 = true := by kernel_rfl
theorem fk26 : FEOK Tryz.prog 26 fe26 := ⟨by kernel_rfl, by kernel_rfl, hb26⟩
/-- isohyet/frac.Sign -/
def fe27 : FE := ⟨6, (.seq (.reg [1] [xC 1 (.box (.t 0)),
 xC 2 (.mv kZ)])
 (.seq (.reg [] [xC 3 (.fad 0 (.t 1)),
 xC 4 (.ld true 2 (.t 3)),
 xC 5 (.call 66 [(.t 4)]),
 xC 2 (.mv (.t 5))])
 .ret)), [(.tmp 2)], [], true⟩
theorem hb27 : hasBody Tryz.prog 27 = true := by kernel_rfl
theorem fk27 : FEOK Tryz.prog 27 fe27 := ⟨by kernel_rfl, by kernel_rfl, hb27⟩
/-- isohyet/steal.Normal -/
def fe28 : FE := ⟨51, (.seq (.reg [] [xC 2 (.mv (.k sZ))])
 (.seq (.reg [3] [xC 11 (.call 16 [kZ]),
 xC 3 (.new [bF, sZ, sZ]),
 ⟨none, none, (.st 3 (.t 3) (.t 11))⟩])
 (.seq (.seq (.reg [] [xC 12 (.mv (.t 0)),
 xC 13 (.len (.t 12)),
 xC 14 (.mv kZ)])
 (.block 0 (.loop (.seq (.reg [] [xC 15 (.bin .lss (.t 14) (.t 13))])
 (.seq (.cond (.t 15) .skip (.exit 0))
 (.seq (.block 1 (.seq (.reg [5] [xC 16 (.iad 4 (.t 12) (.t 14)),
 xC 17 (.ld true 4 (.t 16)),
 xC 5 (.new [(zN 0), bF, sZ, sZ]),
 ⟨none, none, (.st 4 (.t 5) (.t 17))⟩])
 (.reg [] [xC 18 (.ld true 3 (.t 3)),
 xC 19 (.fad 1 (.t 5)),
 xC 20 (.ld true 3 (.t 19)),
 xC 21 (.call 26 [(.t 18), (.t 20)]),
 ⟨none, none, (.st 3 (.t 3) (.t 21))⟩])))
 (.reg [] [xC 22 (.bin .add (.t 14) (kN 1)),
 xC 14 (.mv (.t 22))])))))))
 (.seq (.reg [] [xC 6 (.mv (.k sZ))])
 (.seq (.seq (.reg [] [xC 23 (.mv (.t 0)),
 xC 24 (.len (.t 23)),
 xC 25 (.mv kZ)])
 (.block 2 (.loop (.seq (.reg [] [xC 26 (.bin .lss (.t 25) (.t 24))])
 (.seq (.cond (.t 26) .skip (.exit 2))
 (.seq (.block 3 (.seq (.reg [8] [xC 27 (.iad 4 (.t 23) (.t 25)),
 xC 28 (.ld true 4 (.t 27)),
 xC 8 (.new [(zN 0), bF, sZ, sZ]),
 ⟨none, none, (.st 4 (.t 8) (.t 28))⟩])
 (.seq (.reg [] [xC 29 (.fad 1 (.t 8)),
 xC 30 (.ld true 3 (.t 29)),
 xC 31 (.call 27 [(.t 30)]),
 xC 32 (.bin .neq (.t 31) kZ)])
 (.cond (.t 32) (.seq (.reg [9] [xC 34 (.fad 1 (.t 8)),
 xC 35 (.ld true 3 (.t 34)),
 xC 36 (.ld true 3 (.t 3)),
 xC 37 (.call 33 [(.t 35), (.t 36)]),
 xC 33 (.mv (.t 37)),
 xC 38 (.ext (.t 33) 0),
 xC 39 (.ext (.t 33) 1),
 xC 9 (.new [bF, sZ, sZ]),
 ⟨none, none, (.st 3 (.t 9) (.t 38))⟩,
 xC 10 (.mv (.t 39))])
 (.reg [] [xC 40 (.mv (.t 6)),
 xC 41 (.fad 0 (.t 8)),
 xC 42 (.ld false 1 (.t 41)),
 xC 43 (.ld true 3 (.t 9)),
 xC 44 (.bld [(zN 0), bF, sZ, sZ] [(0, (1, (.t 42))), (1, (3, (.t 43)))]),
 xC 45 (.bsl 1 4 [(zN 0), bF, sZ, sZ] [(0, (4, (.t 44)))]),
 xC 46 (.app 4 64 (.t 40) (.t 45)),
 xC 6 (.mv (.t 46))])) .skip))))
 (.reg [] [xC 47 (.bin .add (.t 25) (kN 1)),
 xC 25 (.mv (.t 47))])))))))
 (.seq (.reg [] [xC 48 (.mv (.t 6)),
 xC 49 (.call 67 [(.t 48), (.k (.fn 68 []))])])
 (.seq (.reg [] [xC 50 (.mv (.t 6)),
 xC 2 (.mv (.t 50))])
 .ret))))))), [(.tmp 2)], [], true⟩
theorem hb28 : hasBody Tryz.prog 28 = true := by kernel_rfl
theorem fk28 : FEOK Tryz.prog 28 fe28 := ⟨by kernel_rfl, by kernel_rfl, hb28⟩
/-- isohyet/frac.Div -/
def fe33 : FE := ⟨19, (.seq (.reg [2, 3, 4] [xC 2 (.box (.t 0)),
 xC 3 (.box (.t 1)),
 xC 4 (.new [bF, sZ, sZ]),
 xC 5 (.mv (.k bF))])
 (.seq (.regd [] [[], [0], [], [2], [1, 3, 3], [], [5], [], [7, 4], [6, 8, 8], [4, 9, 9], [10], [10], [11, 10, 0, 1, 2, 3, 4, 5, 6, 7, 8, 9, 10, 11, 12], [12, 13, 0, 1, 2, 3, 4, 5, 6, 7, 8, 9, 10, 11, 12, 13]] [(xC 6 (.fad 0 (.t 2)), ⟨[2], none, false, false⟩),
 (xC 7 (.ld true 2 (.t 6)), ⟨[2], none, false, false⟩),
 (xC 8 (.ld true 3 (.t 3)), ⟨[3], none, false, false⟩),
 xV 9 (.call 65 [(.t 8)]),
 xV 10 (.call 56 [(.t 7), (.t 9)]),
 (xC 11 (.fad 0 (.t 3)), ⟨[3], none, false, false⟩),
 (xC 12 (.ld true 2 (.t 11)), ⟨[3], none, false, false⟩),
 (xC 13 (.ld true 3 (.t 2)), ⟨[2], none, false, false⟩),
 xV 14 (.call 65 [(.t 13)]),
 xV 15 (.call 56 [(.t 12), (.t 14)]),
 xV 16 (.call 58 [(.t 10), (.t 15)]),
 xU 17 (.ext (.t 16) 0),
 xU 18 (.ext (.t 16) 1),
 (⟨none, none, (.st 3 (.t 4) (.t 17))⟩, ⟨[4], some 4, false, false⟩),
 xU 5 (.mv (.t 18))])
 .ret)), [(.cell 4 true 3), (.tmp 5)], [], true⟩
theorem hb33 : hasBody Tryz.prog 33 = true := by kernel_rfl
theorem fk33 : FEOK Tryz.prog 33 fe33 := ⟨by kernel_rfl, by kernel_rfl, hb33⟩
/-- isohyet/steal.Areas -/
def fe36 : FE := ⟨56, (.seq (.reg [4, 5] [xC 4 (.box (.t 1)),
 xC 5 (.box (.t 2)),
 xC 6 (.mv (.k sZ))])
 (.seq (.reg [] [xC 7 (.mv (.k sZ))])
 (.seq (.reg [] [xC 12 (.mv (.t 0)),
 xC 13 (.ld true 2 (.t 4)),
 xC 14 (.ld true 3 (.t 5)),
 xC 15 (.call 38 [(.t 12), (.t 13), (.t 14)]),
 xC 8 (.mv (.t 15))])
 (.seq (.seq (.reg [] [xC 16 (.fad 1 (.t 5)),
 xC 17 (.ld false 1 (.t 16)),
 xC 18 (.len (.t 17)),
 xC 19 (.mv kZ)])
 (.block 0 (.loop (.seq (.reg [] [xC 20 (.bin .lss (.t 19) (.t 18))])
 (.seq (.cond (.t 20) .skip (.exit 0))
 (.seq (.block 1 (.seq (.reg [10] [xC 21 (.mv (.t 19)),
 xC 22 (.iad 5 (.t 17) (.t 19)),
 xC 23 (.ld true 5 (.t 22)),
 xC 10 (.new [(zN 0), (zN 0), (zN 0), (zN 0), bF]),
 xC 9 (.mv (.t 21)),
 ⟨none, none, (.st 5 (.t 10) (.t 23))⟩])
 (.seq (.regd [] [[], [], [], [2], [1, 3], [4], [], [6], [5, 7], [0, 8], [9], [], [], [11, 12], [13], [10, 14], [15, 0, 1, 2, 3, 4, 5, 6, 7, 8, 9, 10, 11, 12, 13, 14, 15]] [xU 24 (.mv (.t 8)),
 xU 25 (.mv (.t 9)),
 xU 26 (.mv (.t 8)),
 xU 27 (.len (.t 26)),
 xU 28 (.bin .add (.t 25) (.t 27)),
 xU 29 (.bin .sub (.t 28) (kN 1)),
 xU 30 (.mv (.t 8)),
 xU 31 (.len (.t 30)),
 xU 32 (.bin .rem (.t 29) (.t 31)),
 xU 33 (.iad 6 (.t 24) (.t 32)),
 xV 34 (.ld true 6 (.t 33)),
 xU 35 (.mv (.t 8)),
 xU 36 (.mv (.t 9)),
 xU 37 (.iad 6 (.t 35) (.t 36)),
 xV 38 (.ld true 6 (.t 37)),
 (xC 39 (.bsl 2 6 [bF, sZ, sZ, bF, sZ, sZ] [(0, (6, (.t 34))), (6, (6, (.t 38)))]), ⟨[], none, true, true⟩),
 xU 11 (.mv (.t 39))])
 (.seq (.reg [] [xC 40 (.mv (.t 11)),
 xC 41 (.mv (.t 0)),
 xC 42 (.ld true 3 (.t 5)),
 xC 43 (.ld true 5 (.t 10)),
 xC 44 (.call 70 [(.t 41), (.t 42), (.t 43)]),
 xC 45 (.app 6 112 (.t 40) (.t 44)),
 xC 11 (.mv (.t 45))])
 (.regd [] [[], [], [1], [], [3], [2, 4], [5], [0, 6, 4], [7, 7, 0, 1, 2, 3, 4, 5, 6, 7]] [xU 46 (.mv (.t 7)),
 (xC 47 (.fad 0 (.t 10)), ⟨[10], none, false, false⟩),
 (xC 48 (.ld false 1 (.t 47)), ⟨[10], none, false, false⟩),
 xU 49 (.mv (.t 11)),
 xV 50 (.call 37 [(.t 49)]),
 xU 51 (.bld [(zN 0), bF, sZ, sZ] [(0, (1, (.t 48))), (1, (3, (.t 50)))]),
 xU 52 (.bsl 1 4 [(zN 0), bF, sZ, sZ] [(0, (4, (.t 51)))]),
 (xC 53 (.app 4 64 (.t 46) (.t 52)), ⟨[], none, true, true⟩),
 xU 7 (.mv (.t 53))])))))
 (.reg [] [xC 54 (.bin .add (.t 19) (kN 1)),
 xC 19 (.mv (.t 54))])))))))
 (.seq (.reg [] [xC 55 (.mv (.t 7)),
 xC 6 (.mv (.t 55))])
 .ret))))), [(.tmp 6)], [39], true⟩
theorem hb36 : hasBody Tryz.prog 36 = true := by kernel_rfl
theorem fk36 : FEOK Tryz.prog 36 fe36 := ⟨by kernel_rfl, by kernel_rfl, hb36⟩
/-- isohyet/spot.Area2 -/
def fe37 : FE := ⟨38, (.seq (.reg [2] [xC 2 (.new [bF, sZ, sZ])])
 (.seq (.reg [3] [xC 7 (.call 16 [kZ]),
 xC 3 (.new [bF, sZ, sZ]),
 ⟨none, none, (.st 3 (.t 3) (.t 7))⟩])
 (.seq (.seq (.reg [] [xC 8 (.mv (.t 0)),
 xC 9 (.len (.t 8)),
 xC 10 (.mv kZ)])
 (.block 0 (.loop (.seq (.reg [] [xC 11 (.bin .lss (.t 10) (.t 9))])
 (.seq (.cond (.t 11) .skip (.exit 0))
 (.seq (.block 1 (.seq (.reg [5] [xC 12 (.mv (.t 10)),
 xC 13 (.iad 6 (.t 8) (.t 10)),
 xC 14 (.ld true 6 (.t 13)),
 xC 5 (.new [bF, sZ, sZ, bF, sZ, sZ]),
 xC 4 (.mv (.t 12)),
 ⟨none, none, (.st 6 (.t 5) (.t 14))⟩])
 (.seq (.reg [6] [xC 15 (.mv (.t 0)),
 xC 16 (.mv (.t 4)),
 xC 17 (.bin .add (.t 16) (kN 1)),
 xC 18 (.mv (.t 0)),
 xC 19 (.len (.t 18)),
 xC 20 (.bin .rem (.t 17) (.t 19)),
 xC 21 (.iad 6 (.t 15) (.t 20)),
 xC 22 (.ld true 6 (.t 21)),
 xC 6 (.new [bF, sZ, sZ, bF, sZ, sZ]),
 ⟨none, none, (.st 6 (.t 6) (.t 22))⟩])
 (.regd [] [[], [], [1], [], [3], [2, 4], [], [6], [], [8], [7, 9, 5], [5, 10, 10], [0, 11, 11], [12, 12, 0, 1, 2, 3, 4, 5, 6, 7, 8, 9, 10, 11, 12]] [(xC 23 (.ld true 3 (.t 3)), ⟨[3], none, false, false⟩),
 (xC 24 (.fad 0 (.t 5)), ⟨[5], none, false, false⟩),
 (xC 25 (.ld true 3 (.t 24)), ⟨[5], none, false, false⟩),
 (xC 26 (.fad 3 (.t 6)), ⟨[6], none, false, false⟩),
 (xC 27 (.ld true 3 (.t 26)), ⟨[6], none, false, false⟩),
 xV 28 (.call 24 [(.t 25), (.t 27)]),
 (xC 29 (.fad 3 (.t 5)), ⟨[5], none, false, false⟩),
 (xC 30 (.ld true 3 (.t 29)), ⟨[5], none, false, false⟩),
 (xC 31 (.fad 0 (.t 6)), ⟨[6], none, false, false⟩),
 (xC 32 (.ld true 3 (.t 31)), ⟨[6], none, false, false⟩),
 xV 33 (.call 24 [(.t 30), (.t 32)]),
 xV 34 (.call 22 [(.t 28), (.t 33)]),
 xV 35 (.call 26 [(.t 23), (.t 34)]),
 (⟨none, none, (.st 3 (.t 3) (.t 35))⟩, ⟨[3], some 3, false, false⟩)]))))
 (.reg [] [xC 36 (.bin .add (.t 10) (kN 1)),
 xC 10 (.mv (.t 36))])))))))
 (.seq (.reg [] [xC 37 (.ld true 3 (.t 3)),
 ⟨none, none, (.st 3 (.t 2) (.t 37))⟩])
 .ret)))), [(.cell 2 true 3)], [], true⟩
theorem hb37 : hasBody Tryz.prog 37 = true := by kernel_rfl
theorem fk37 : FEOK Tryz.prog 37 fe37 := ⟨by kernel_rfl, by kernel_rfl, hb37⟩
/-- isohyet/steal.Cell -/
def fe38 : FE := ⟨46, (.seq (.reg [4, 5] [xC 4 (.box (.t 1)),
 xC 5 (.box (.t 2)),
 xC 6 (.mv (.k sZ))])
 (.seq (.reg [] [xC 7 (.mv (.k sZ))])
 (.seq (.seq (.reg [] [xC 12 (.fad 1 (.t 5)),
 xC 13 (.ld false 1 (.t 12)),
 xC 14 (.len (.t 13)),
 xC 15 (.mv kZ)])
 (.block 0 (.loop (.seq (.reg [] [xC 16 (.bin .lss (.t 15) (.t 14))])
 (.seq (.cond (.t 16) .skip (.exit 0))
 (.seq (.block 1 (.seq (.reg [9] [xC 17 (.iad 5 (.t 13) (.t 15)),
 xC 18 (.ld true 5 (.t 17)),
 xC 9 (.new [(zN 0), (zN 0), (zN 0), (zN 0), bF]),
 ⟨none, none, (.st 5 (.t 9) (.t 18))⟩])
 (.seq (.regd [10] [[], [], [1], [2], [3], [], [5], [4, 6], [7], [], [9], [10], [11], [], [13], [12, 14], [15], [0, 8, 16], [17], [18], [18], [], [21, 19, 17, 0, 1, 2, 3, 4, 5, 6, 7, 8, 9, 10, 11, 12, 13, 14, 15, 16, 17, 18, 19, 21], [20, 22, 0, 1, 2, 3, 4, 5, 6, 7, 8, 9, 10, 11, 12, 13, 14, 15, 16, 17, 18, 19, 20, 21, 22]] [(xC 20 (.ld true 2 (.t 4)), ⟨[4], none, false, false⟩),
 xU 21 (.mv (.t 0)),
 xU 22 (.nck (.t 21)),
 xU 23 (.fad 0 (.t 22)),
 xV 24 (.ld false 1 (.t 23)),
 (xC 25 (.fad 0 (.t 9)), ⟨[9], none, false, false⟩),
 (xC 26 (.ld false 1 (.t 25)), ⟨[9], none, false, false⟩),
 xU 27 (.iad 2 (.t 24) (.t 26)),
 xV 28 (.ld true 2 (.t 27)),
 xU 29 (.mv (.t 0)),
 xU 30 (.nck (.t 29)),
 xU 31 (.fad 0 (.t 30)),
 xV 32 (.ld false 1 (.t 31)),
 (xC 33 (.fad 1 (.t 9)), ⟨[9], none, false, false⟩),
 (xC 34 (.ld false 1 (.t 33)), ⟨[9], none, false, false⟩),
 xU 35 (.iad 2 (.t 32) (.t 34)),
 xV 36 (.ld true 2 (.t 35)),
 xV 37 (.call 21 [(.t 20), (.t 28), (.t 36)]),
 xU 19 (.mv (.t 37)),
 xU 38 (.ext (.t 19) 0),
 xU 39 (.ext (.t 19) 1),
 (xC 10 (.new [bF, sZ, sZ, bF, sZ, sZ]), ⟨[10], some 10, false, false⟩),
 (⟨none, none, (.st 6 (.t 10) (.t 38))⟩, ⟨[10], some 10, false, false⟩),
 xU 11 (.mv (.t 39))])
 (.reg [] [xC 40 (.mv (.t 7)),
 xC 41 (.ld true 6 (.t 10)),
 xC 42 (.bsl 1 6 [bF, sZ, sZ, bF, sZ, sZ] [(0, (6, (.t 41)))]),
 xC 43 (.app 6 112 (.t 40) (.t 42)),
 xC 7 (.mv (.t 43))]))))
 (.reg [] [xC 44 (.bin .add (.t 15) (kN 1)),
 xC 15 (.mv (.t 44))])))))))
 (.seq (.reg [] [xC 45 (.mv (.t 7)),
 xC 6 (.mv (.t 45))])
 .ret)))), [(.tmp 6)], [], true⟩
theorem hb38 : hasBody Tryz.prog 38 = true := by kernel_rfl
theorem fk38 : FEOK Tryz.prog 38 fe38 := ⟨by kernel_rfl, by kernel_rfl, hb38⟩
/-- isohyet/grow.Build -/
def fe39 : FE := ⟨60, (.seq (.reg [] [xC 2 (.mv (.k (.lit (.pointer none)))),
 xC 3 (.mv (.k bF))])
 (.seq (.reg [4] [xC 11 (.mv (.t 0)),
 xC 12 (.call 71 [(.t 11)]),
 xC 10 (.mv (.t 12)),
 xC 13 (.ext (.t 10) 0),
 xC 14 (.ext (.t 10) 1),
 xC 4 (.new [(zN 0), (zN 0), (zN 0)]),
 ⟨none, none, (.st 3 (.t 4) (.t 13))⟩,
 xC 5 (.mv (.t 14))])
 (.seq (.seq (.reg [] [xC 15 (.mv (.t 5)),
 xC 16 (.un .not (.t 15))])
 (.cond (.t 16) (.seq (.reg [] [xC 2 (.mv (.k (.lit (.pointer none)))),
 xC 3 (.mv (.k bF))])
 .ret) .skip))
 (.seq (.reg [] [xC 18 (.mv (.t 0)),
 xC 19 (.iaa 3 1 (.t 4) kZ),
 xC 20 (.ld false 1 (.t 19)),
 xC 21 (.iaa 3 1 (.t 4) (kN 1)),
 xC 22 (.ld false 1 (.t 21)),
 xC 23 (.iaa 3 1 (.t 4) (kN 2)),
 xC 24 (.ld false 1 (.t 23)),
 xC 25 (.call 72 [(.t 18), (.t 20), (.t 22), (.t 24)]),
 xC 17 (.mv (.t 25)),
 xC 26 (.ext (.t 17) 0),
 xC 27 (.ext (.t 17) 1),
 xC 6 (.mv (.t 26)),
 xC 7 (.mv (.t 27))])
 (.seq (.reg [] [xC 28 (.iaa 3 1 (.t 4) kZ),
 xC 29 (.ld false 1 (.t 28)),
 xC 8 (.mv (.t 29))])
 (.seq (.seq (.reg [] [xC 30 (.mv (.t 0)),
 xC 31 (.len (.t 30)),
 xC 32 (.mv kZ)])
 (.block 0 (.loop (.seq (.reg [] [xC 33 (.bin .lss (.t 32) (.t 31))])
 (.seq (.cond (.t 33) .skip (.exit 0))
 (.seq (.block 1 (.seq (.reg [] [xC 34 (.mv (.t 32)),
 xC 9 (.mv (.t 34))])
 (.seq (.reg [] [xC 35 (.mv (.t 9)),
 xC 36 (.iaa 3 1 (.t 4) kZ),
 xC 37 (.ld false 1 (.t 36)),
 xC 38 (.bin .neq (.t 35) (.t 37)),
 xC 39 (.mv (.t 38)),
 ⟨(some 40), (some (39, true)), (.mv (.t 9))⟩,
 ⟨(some 41), (some (39, true)), (.iaa 3 1 (.t 4) (kN 1))⟩,
 ⟨(some 42), (some (39, true)), (.ld false 1 (.t 41))⟩,
 ⟨(some 43), (some (39, true)), (.bin .neq (.t 40) (.t 42))⟩,
 xC 44 (.pick (.t 39) (.t 43) (.k bF)),
 xC 45 (.mv (.t 44)),
 ⟨(some 46), (some (45, true)), (.mv (.t 9))⟩,
 ⟨(some 47), (some (45, true)), (.iaa 3 1 (.t 4) (kN 2))⟩,
 ⟨(some 48), (some (45, true)), (.ld false 1 (.t 47))⟩,
 ⟨(some 49), (some (45, true)), (.bin .neq (.t 46) (.t 48))⟩,
 xC 50 (.pick (.t 45) (.t 49) (.k bF))])
 (.cond (.t 50) (.seq (.reg [] [xC 51 (.mv (.t 6)),
 xC 52 (.mv (.t 9)),
 xC 53 (.mv (.t 6)),
 xC 54 (.mv (.t 8)),
 xC 55 (.call 74 [(.t 53), (.t 54)]),
 xC 56 (.call 73 [(.t 51), (.t 52), (.t 55)])])
 (.reg [] [xC 57 (.mv (.t 9)),
 xC 8 (.mv (.t 57))])) .skip))))
 (.reg [] [xC 58 (.bin .add (.t 32) (kN 1)),
 xC 32 (.mv (.t 58))])))))))
 (.seq (.reg [] [xC 59 (.mv (.t 6)),
 xC 2 (.mv (.t 59)),
 xC 3 (.mv (.k bT))])
 .ret))))))), [(.tmp 2), (.tmp 3)], [], false⟩
theorem hb39 : hasBody Tryz.prog 39 = true := by kernel_rfl
theorem fk39 : FEOK Tryz.prog 39 fe39 := ⟨by kernel_rfl, by kernel_rfl, hb39⟩
/-- isohyet/walk.Look -/
def fe40 : FE := ⟨66, (.seq (.reg [] [xC 2 (.box (.t 0)),
 xC 3 (.box (.t 1)),
 xC 4 (.new [(zN 0), (zN 0), (zN 0), (zN 0)])])
 (.seq (.seq (.reg [] [xC 11 (.ld false 1 (.t 2)),
 xC 12 (.call 75 [(.t 11)])])
 (.block 0 (.rng (.t 12) [13, 14] (.reg [] [xC 5 (.mv (.t 13))]) (.block 1 (.seq (.reg [] [xC 15 (.ld false 1 (.t 2)),
 xC 16 (.mv (.t 5)),
 xC 17 (.ld true 2 (.t 3)),
 xC 18 (.call 76 [(.t 15), (.t 16), (.t 17)])])
 (.cond (.t 18) (.seq (.reg [] [xC 19 (.ld false 1 (.t 2)),
 xC 20 (.mv (.t 5)),
 xC 21 (.ld true 2 (.t 3)),
 xC 22 (.call 77 [(.t 19), (.t 20), (.t 21)]),
 ⟨none, none, (.st 4 (.t 4) (.t 22))⟩])
 .ret) .skip))))))
 (.seq (.reg [] [xC 23 (.bld [(zN 0), (zN 0), (zN 0), (zN 0)] [(0, (1, (kN 3))), (1, (1, (.k (.lit (.int .i64 (-1))))))]),
 xC 6 (.new [(zN 0), (zN 0), (zN 0), (zN 0)]),
 ⟨none, none, (.st 4 (.t 6) (.t 23))⟩])
 (.seq (.seq (.reg [] [xC 24 (.ld false 1 (.t 2)),
 xC 25 (.call 75 [(.t 24)])])
 (.block 2 (.rng (.t 25) [26, 27] (.seq (.reg [] [xC 7 (.mv (.t 26))])
 (.reg [8] [xC 8 (.new [(zN 0), (zN 0), (zN 0), (zN 0), (zN 0), (zN 0), bF, bF, bF]),
 ⟨none, none, (.st 9 (.t 8) (.t 27))⟩])) (.block 3 (.seq (.reg [] [xC 28 (.fad 3 (.t 8)),
 xC 29 (.ld true 3 (.t 28)),
 xC 30 (.mv kZ)])
 (.block 4 (.loop (.seq (.reg [] [xC 31 (.bin .lss (.t 30) (kN 3))])
 (.seq (.cond (.t 31) .skip (.exit 4))
 (.seq (.block 5 (.seq (.reg [] [xC 32 (.mv (.t 30)),
 xC 33 (.ixa 3 1 false (.t 29) (.t 30)),
 xC 9 (.mv (.t 32)),
 xC 10 (.mv (.t 33))])
 (.seq (.regd [] [[], [], [0, 1], [2], [3, 2], [4], [4], [6, 4], [7, 4], [8, 4], [4], [9, 10, 4], [11, 4], [4], [4], [5, 12, 13, 14, 4, 4], [4, 15], [16, 15], [17], [18, 17], [19, 17], [20, 17, 17], [21], [21], [23, 21], [22, 24, 21], [21, 25, 17], [17, 26]] [xV 34 (.ld false 1 (.t 2)),
 xU 35 (.mv (.t 10)),
 xV 36 (.call 50 [(.t 34), (.t 35)]),
 xU 37 (.un .not (.t 36)),
 xU 38 (.mv (.t 37)),
 (⟨(some 39), (some (38, true)), (.ld false 1 (.t 2))⟩, ⟨[], none, true, false⟩),
 (⟨(some 40), (some (38, true)), (.ld false 1 (.t 2))⟩, ⟨[], none, true, false⟩),
 (⟨(some 41), (some (38, true)), (.nck (.t 40))⟩, ⟨[], none, false, false⟩),
 (⟨(some 42), (some (38, true)), (.fad 1 (.t 41))⟩, ⟨[], none, false, false⟩),
 (⟨(some 43), (some (38, true)), (.ld false 1 (.t 42))⟩, ⟨[], none, true, false⟩),
 (⟨(some 44), (some (38, true)), (.mv (.t 7))⟩, ⟨[], none, false, false⟩),
 (⟨(some 45), (some (38, true)), (.iad 9 (.t 43) (.t 44))⟩, ⟨[], none, false, false⟩),
 (⟨(some 46), (some (38, true)), (.ld true 9 (.t 45))⟩, ⟨[], none, true, false⟩),
 (⟨(some 47), (some (38, true)), (.mv (.t 9))⟩, ⟨[], none, false, false⟩),
 (⟨(some 48), (some (38, true)), (.ld true 2 (.t 3))⟩, ⟨[], none, true, false⟩),
 (⟨(some 49), (some (38, true)), (.call 78 [(.t 39), (.t 46), (.t 47), (.t 48)])⟩, ⟨[], none, true, false⟩),
 xU 50 (.pick (.t 38) (.t 49) (.k bF)),
 xU 51 (.mv (.t 50)),
 (⟨(some 52), (some (51, true)), (.fad 1 (.t 6))⟩, ⟨[], none, false, false⟩),
 (⟨(some 53), (some (51, true)), (.ld false 1 (.t 52))⟩, ⟨[], none, true, false⟩),
 (⟨(some 54), (some (51, true)), (.bin .lss (.t 53) kZ)⟩, ⟨[], none, false, false⟩),
 (⟨(some 55), (some (51, true)), (.mv (.t 54))⟩, ⟨[], none, false, false⟩),
 (⟨(some 56), (some (55, false)), (.mv (.t 10))⟩, ⟨[], none, false, false⟩),
 (⟨(some 57), (some (55, false)), (.fad 1 (.t 6))⟩, ⟨[], none, false, false⟩),
 (⟨(some 58), (some (55, false)), (.ld false 1 (.t 57))⟩, ⟨[], none, true, false⟩),
 (⟨(some 59), (some (55, false)), (.bin .lss (.t 56) (.t 58))⟩, ⟨[], none, false, false⟩),
 (⟨(some 60), (some (51, true)), (.pick (.t 55) (.k bT) (.t 59))⟩, ⟨[], none, false, false⟩),
 xU 61 (.pick (.t 51) (.t 60) (.k bF))])
 (.cond (.t 61) (.reg [] [xC 62 (.mv (.t 10)),
 xC 63 (.fad 1 (.t 6)),
 ⟨none, none, (.st 1 (.t 63) (.t 62))⟩]) .skip))))
 (.reg [] [xC 64 (.bin .add (.t 30) (kN 1)),
 xC 30 (.mv (.t 64))])))))))))))
 (.seq (.reg [] [xC 65 (.ld true 4 (.t 6)),
 ⟨none, none, (.st 4 (.t 4) (.t 65))⟩])
 .ret))))), [(.cell 4 true 4)], [2, 3, 4, 6], true⟩
theorem hb40 : hasBody Tryz.prog 40 = true := by kernel_rfl
theorem fk40 : FEOK Tryz.prog 40 fe40 := ⟨by kernel_rfl, by kernel_rfl, hb40⟩
/-- isohyet/frac.Cmp -/
def fe43 : FE := ⟨30, (.seq (.reg [2, 3] [xC 2 (.box (.t 0)),
 xC 3 (.box (.t 1)),
 xC 4 (.mv kZ)])
 (.seq (.regd [] [[], [0], [], [2, 1], [1, 3, 0, 1], [3, 4, 0, 1, 2, 3, 4]] [(xC 7 (.ld true 3 (.t 2)), ⟨[2], none, false, false⟩),
 xV 8 (.call 27 [(.t 7)]),
 (xC 9 (.ld true 3 (.t 3)), ⟨[3], none, false, false⟩),
 xV 10 (.call 27 [(.t 9)]),
 xU 5 (.mv (.t 8)),
 xU 6 (.mv (.t 10))])
 (.seq (.seq (.reg [] [xC 11 (.mv (.t 5)),
 xC 12 (.mv (.t 6)),
 xC 13 (.bin .neq (.t 11) (.t 12))])
 (.cond (.t 13) (.seq (.reg [] [xC 14 (.mv (.t 5)),
 xC 15 (.call 45 [(.t 14)]),
 xC 16 (.mv (.t 6)),
 xC 17 (.call 45 [(.t 16)]),
 xC 18 (.call 80 [(.t 15), (.t 17)]),
 xC 4 (.mv (.t 18))])
 .ret) .skip))
 (.seq (.regd [] [[], [0], [], [2], [1, 3, 3], [], [5], [], [7, 4], [6, 8, 8], [4, 9, 9], [10, 10, 0, 1, 2, 3, 4, 5, 6, 7, 8, 9, 10]] [(xC 19 (.fad 0 (.t 2)), ⟨[2], none, false, false⟩),
 (xC 20 (.ld true 2 (.t 19)), ⟨[2], none, false, false⟩),
 (xC 21 (.ld true 3 (.t 3)), ⟨[3], none, false, false⟩),
 xV 22 (.call 65 [(.t 21)]),
 xV 23 (.call 56 [(.t 20), (.t 22)]),
 (xC 24 (.fad 0 (.t 3)), ⟨[3], none, false, false⟩),
 (xC 25 (.ld true 2 (.t 24)), ⟨[3], none, false, false⟩),
 (xC 26 (.ld true 3 (.t 2)), ⟨[2], none, false, false⟩),
 xV 27 (.call 65 [(.t 26)]),
 xV 28 (.call 56 [(.t 25), (.t 27)]),
 xV 29 (.call 80 [(.t 23), (.t 28)]),
 xU 4 (.mv (.t 29))])
 .ret)))), [(.tmp 4)], [], true⟩
theorem hb43 : hasBody Tryz.prog 43 = true := by kernel_rfl
theorem fk43 : FEOK Tryz.prog 43 fe43 := ⟨by kernel_rfl, by kernel_rfl, hb43⟩
/-- isohyet/frac.Whole -/
def fe44 : FE := ⟨6, (.seq (.reg [1, 2] [xC 1 (.box (.t 0)),
 xC 2 (.new [bF, sZ, sZ])])
 (.seq (.regd [] [[], [], [0, 1, 1], [2, 2, 0, 1, 2]] [(xC 3 (.ld true 2 (.t 1)), ⟨[1], none, false, false⟩),
 xV 4 (.call 81 []),
 xV 5 (.call 60 [(.t 3), (.t 4)]),
 (⟨none, none, (.st 3 (.t 2) (.t 5))⟩, ⟨[2], some 2, false, false⟩)])
 .ret)), [(.cell 2 true 3)], [], true⟩
theorem hb44 : hasBody Tryz.prog 44 = true := by kernel_rfl
theorem fk44 : FEOK Tryz.prog 44 fe44 := ⟨by kernel_rfl, by kernel_rfl, hb44⟩
/-- isohyet/num.Of -/
def fe45 : FE := ⟨14, (.seq (.reg [2] [xC 2 (.new [bF, sZ])])
 (.seq (.seq (.reg [] [xC 3 (.mv (.t 0)),
 xC 4 (.bin .lss (.t 3) kZ)])
 (.cond (.t 4) (.seq (.reg [] [xC 5 (.mv (.t 0)),
 xC 6 (.cv .u64 (.t 5)),
 xC 7 (.un .neg (.t 6)),
 xC 8 (.call 82 [(.t 7)]),
 xC 9 (.bld [bF, sZ] [(0, (1, (.k bT))), (1, (1, (.t 8)))]),
 ⟨none, none, (.st 2 (.t 2) (.t 9))⟩])
 .ret) .skip))
 (.seq (.reg [] [xC 10 (.mv (.t 0)),
 xC 11 (.cv .u64 (.t 10)),
 xC 12 (.call 82 [(.t 11)]),
 xC 13 (.bld [bF, sZ] [(0, (1, (.k bF))), (1, (1, (.t 12)))]),
 ⟨none, none, (.st 2 (.t 2) (.t 13))⟩])
 .ret))), [(.cell 2 true 2)], [], true⟩
theorem hb45 : hasBody Tryz.prog 45 = true := by kernel_rfl
theorem fk45 : FEOK Tryz.prog 45 fe45 := ⟨by kernel_rfl, by kernel_rfl, hb45⟩
/-- (*isohyet/mesh.Mesh).Find -/
def fe49 : FE := ⟨58, (.seq (.reg [] [xC 3 (.box (.t 0)),
 xC 4 (.box (.t 1)),
 xC 5 (.box (.t 2)),
 xC 6 (.new [(zN 0)]),
 xC 7 (.new [(zN 0)]),
 xC 8 (.new [bF])])
 (.seq (.reg [] [xC 13 (.ld false 1 (.t 4)),
 xC 14 (.ld false 1 (.t 5)),
 xC 15 (.mnx true [(.t 13), (.t 14)]),
 xC 9 (.mv (.t 15))])
 (.seq (.seq (.reg [] [xC 16 (.mv (.t 9)),
 xC 17 (.bin .lss (.t 16) kZ),
 xC 18 (.mv (.t 17)),
 ⟨(some 19), (some (18, false)), (.ld false 1 (.t 4))⟩,
 ⟨(some 20), (some (18, false)), (.ld false 1 (.t 5))⟩,
 ⟨(some 21), (some (18, false)), (.bin .eql (.t 19) (.t 20))⟩,
 xC 22 (.pick (.t 18) (.k bT) (.t 21))])
 (.cond (.t 22) (.seq (.reg [] [⟨none, none, (.st 1 (.t 6) (.k (.lit (.int .i64 (-1)))))⟩,
 ⟨none, none, (.st 1 (.t 7) kZ)⟩,
 ⟨none, none, (.st 1 (.t 8) (.k bF))⟩])
 .ret) .skip))
 (.seq (.seq (.reg [] [xC 23 (.ld false 1 (.t 3)),
 xC 24 (.mv (.t 9)),
 xC 25 (.call 88 [(.t 23), (.t 24)])])
 (.block 0 (.rng (.t 25) [26, 27] (.reg [] [xC 10 (.mv (.t 26))]) (.block 1 (.seq (.reg [] [xC 28 (.mv kZ)])
 (.block 2 (.loop (.seq (.reg [] [xC 29 (.bin .lss (.t 28) (kN 3))])
 (.seq (.cond (.t 29) .skip (.exit 2))
 (.seq (.block 3 (.seq (.reg [] [xC 30 (.mv (.t 28)),
 xC 11 (.mv (.t 30))])
 (.seq (.reg [12] [xC 31 (.ld false 1 (.t 3)),
 xC 32 (.nck (.t 31)),
 xC 33 (.fad 1 (.t 32)),
 xC 34 (.ld false 1 (.t 33)),
 xC 35 (.mv (.t 10)),
 xC 36 (.iad 9 (.t 34) (.t 35)),
 xC 37 (.fad 0 (.t 36)),
 xC 38 (.ld true 3 (.t 37)),
 xC 12 (.new [(zN 0), (zN 0), (zN 0)]),
 ⟨none, none, (.st 3 (.t 12) (.t 38))⟩])
 (.seq (.regd [] [[], [0], [1], [2], [3], [], [4, 5], [6], [7], [8, 7], [9, 7], [10, 7], [11, 7], [7], [12, 13, 7], [7, 14]] [xU 39 (.mv (.t 11)),
 xU 40 (.bin .add (.t 39) (kN 1)),
 xU 41 (.bin .rem (.t 40) (kN 3)),
 (xC 42 (.iaa 3 1 (.t 12) (.t 41)), ⟨[12], none, false, false⟩),
 (xC 43 (.ld false 1 (.t 42)), ⟨[12], none, false, false⟩),
 xV 44 (.ld false 1 (.t 4)),
 xU 45 (.bin .eql (.t 43) (.t 44)),
 xU 46 (.mv (.t 45)),
 (⟨(some 47), (some (46, true)), (.mv (.t 11))⟩, ⟨[], none, false, false⟩),
 (⟨(some 48), (some (46, true)), (.bin .add (.t 47) (kN 2))⟩, ⟨[], none, false, false⟩),
 (⟨(some 49), (some (46, true)), (.bin .rem (.t 48) (kN 3))⟩, ⟨[], none, false, false⟩),
 (⟨(some 50), (some (46, true)), (.iaa 3 1 (.t 12) (.t 49))⟩, ⟨[12], none, false, false⟩),
 (⟨(some 51), (some (46, true)), (.ld false 1 (.t 50))⟩, ⟨[12], none, false, false⟩),
 (⟨(some 52), (some (46, true)), (.ld false 1 (.t 5))⟩, ⟨[], none, true, false⟩),
 (⟨(some 53), (some (46, true)), (.bin .eql (.t 51) (.t 52))⟩, ⟨[], none, false, false⟩),
 xU 54 (.pick (.t 46) (.t 53) (.k bF))])
 (.cond (.t 54) (.seq (.reg [] [xC 55 (.mv (.t 10)),
 xC 56 (.mv (.t 11)),
 ⟨none, none, (.st 1 (.t 6) (.t 55))⟩,
 ⟨none, none, (.st 1 (.t 7) (.t 56))⟩,
 ⟨none, none, (.st 1 (.t 8) (.k bT))⟩])
 .ret) .skip)))))
 (.reg [] [xC 57 (.bin .add (.t 28) (kN 1)),
 xC 28 (.mv (.t 57))])))))))))))
 (.seq (.reg [] [⟨none, none, (.st 1 (.t 6) (.k (.lit (.int .i64 (-1)))))⟩,
 ⟨none, none, (.st 1 (.t 7) kZ)⟩,
 ⟨none, none, (.st 1 (.t 8) (.k bF))⟩])
 .ret))))), [(.cell 6 false 1), (.cell 7 false 1), (.cell 8 false 1)], [3, 4, 5, 6, 7, 8], true⟩
theorem hb49 : hasBody Tryz.prog 49 = true := by kernel_rfl
theorem fk49 : FEOK Tryz.prog 49 fe49 := ⟨by kernel_rfl, by kernel_rfl, hb49⟩
/-- (*isohyet/mesh.Mesh).Real -/
def fe50 : FE := ⟨38, (.seq (.reg [] [xC 4 (.mv (.k bF))])
 (.seq (.seq (.reg [] [xC 6 (.mv (.t 1)),
 xC 7 (.bin .lss (.t 6) kZ),
 xC 8 (.mv (.t 7)),
 ⟨(some 9), (some (8, false)), (.mv (.t 1))⟩,
 ⟨(some 10), (some (8, false)), (.mv (.t 0))⟩,
 ⟨(some 11), (some (8, false)), (.nck (.t 10))⟩,
 ⟨(some 12), (some (8, false)), (.fad 1 (.t 11))⟩,
 ⟨(some 13), (some (8, false)), (.ld false 1 (.t 12))⟩,
 ⟨(some 14), (some (8, false)), (.len (.t 13))⟩,
 ⟨(some 15), (some (8, false)), (.bin .geq (.t 9) (.t 14))⟩,
 xC 16 (.pick (.t 8) (.k bT) (.t 15))])
 (.cond (.t 16) (.seq (.reg [] [xC 4 (.mv (.k bF))])
 .ret) .skip))
 (.seq (.reg [5] [xC 17 (.mv (.t 0)),
 xC 18 (.nck (.t 17)),
 xC 19 (.fad 1 (.t 18)),
 xC 20 (.ld false 1 (.t 19)),
 xC 21 (.mv (.t 1)),
 xC 22 (.iad 9 (.t 20) (.t 21)),
 xC 23 (.fad 0 (.t 22)),
 xC 24 (.ld true 3 (.t 23)),
 xC 5 (.new [(zN 0), (zN 0), (zN 0)]),
 ⟨none, none, (.st 3 (.t 5) (.t 24))⟩])
 (.seq (.reg [] [xC 25 (.iaa 3 1 (.t 5) kZ),
 xC 26 (.ld false 1 (.t 25)),
 xC 27 (.bin .geq (.t 26) kZ),
 xC 28 (.mv (.t 27)),
 ⟨(some 29), (some (28, true)), (.iaa 3 1 (.t 5) (kN 1))⟩,
 ⟨(some 30), (some (28, true)), (.ld false 1 (.t 29))⟩,
 ⟨(some 31), (some (28, true)), (.bin .geq (.t 30) kZ)⟩,
 xC 32 (.pick (.t 28) (.t 31) (.k bF)),
 xC 33 (.mv (.t 32)),
 ⟨(some 34), (some (33, true)), (.iaa 3 1 (.t 5) (kN 2))⟩,
 ⟨(some 35), (some (33, true)), (.ld false 1 (.t 34))⟩,
 ⟨(some 36), (some (33, true)), (.bin .geq (.t 35) kZ)⟩,
 xC 37 (.pick (.t 33) (.t 36) (.k bF)),
 xC 4 (.mv (.t 37))])
 .ret)))), [(.tmp 4)], [], true⟩
theorem hb50 : hasBody Tryz.prog 50 = true := by kernel_rfl
theorem fk50 : FEOK Tryz.prog 50 fe50 := ⟨by kernel_rfl, by kernel_rfl, hb50⟩
/-- isohyet/cavity.across -/
def fe51 : FE := ⟨40, (.seq (.reg [] [xC 8 (.mv kZ)])
 (.seq (.reg [9] [xC 11 (.mv (.t 0)),
 xC 12 (.nck (.t 11)),
 xC 13 (.fad 1 (.t 12)),
 xC 14 (.ld false 1 (.t 13)),
 xC 15 (.mv (.t 1)),
 xC 16 (.iad 9 (.t 14) (.t 15)),
 xC 17 (.ld true 9 (.t 16)),
 xC 9 (.new [(zN 0), (zN 0), (zN 0), (zN 0), (zN 0), (zN 0), bF, bF, bF]),
 ⟨none, none, (.st 9 (.t 9) (.t 17))⟩])
 (.seq (.seq (.reg [] [xC 18 (.mv kZ)])
 (.block 0 (.loop (.seq (.reg [] [xC 19 (.bin .lss (.t 18) (kN 3))])
 (.seq (.cond (.t 19) .skip (.exit 0))
 (.seq (.block 1 (.seq (.reg [] [xC 20 (.mv (.t 18)),
 xC 10 (.mv (.t 20))])
 (.seq (.reg [] [xC 21 (.mv (.t 10)),
 xC 22 (.fad 0 (.t 9)),
 xC 23 (.iaa 3 1 (.t 22) (.t 21)),
 xC 24 (.ld false 1 (.t 23)),
 xC 25 (.mv (.t 2)),
 xC 26 (.bin .neq (.t 24) (.t 25)),
 xC 27 (.mv (.t 26)),
 ⟨(some 28), (some (27, true)), (.mv (.t 10))⟩,
 ⟨(some 29), (some (27, true)), (.fad 0 (.t 9))⟩,
 ⟨(some 30), (some (27, true)), (.iaa 3 1 (.t 29) (.t 28))⟩,
 ⟨(some 31), (some (27, true)), (.ld false 1 (.t 30))⟩,
 ⟨(some 32), (some (27, true)), (.mv (.t 3))⟩,
 ⟨(some 33), (some (27, true)), (.bin .neq (.t 31) (.t 32))⟩,
 xC 34 (.pick (.t 27) (.t 33) (.k bF))])
 (.cond (.t 34) (.seq (.reg [] [xC 35 (.mv (.t 10)),
 xC 36 (.fad 3 (.t 9)),
 xC 37 (.iaa 3 1 (.t 36) (.t 35)),
 xC 38 (.ld false 1 (.t 37)),
 xC 8 (.mv (.t 38))])
 .ret) .skip))))
 (.reg [] [xC 39 (.bin .add (.t 18) (kN 1)),
 xC 18 (.mv (.t 39))])))))))
 (.seq (.reg [] [xC 8 (.mv (.k (.lit (.int .i64 (-1)))))])
 .ret)))), [(.tmp 8)], [], true⟩
theorem hb51 : hasBody Tryz.prog 51 = true := by kernel_rfl
theorem fk51 : FEOK Tryz.prog 51 fe51 := ⟨by kernel_rfl, by kernel_rfl, hb51⟩
/-- isohyet/cavity.Conflict -/
def fe52 : FE := ⟨87, (.seq (.reg [5] [xC 5 (.box (.t 2)),
 xC 6 (.mv (.k bF))])
 (.seq (.reg [7] [xC 11 (.mv (.t 0)),
 xC 12 (.nck (.t 11)),
 xC 13 (.fad 1 (.t 12)),
 xC 14 (.ld false 1 (.t 13)),
 xC 15 (.mv (.t 1)),
 xC 16 (.iad 9 (.t 14) (.t 15)),
 xC 17 (.fad 0 (.t 16)),
 xC 18 (.ld true 3 (.t 17)),
 xC 7 (.new [(zN 0), (zN 0), (zN 0)]),
 ⟨none, none, (.st 3 (.t 7) (.t 18))⟩])
 (.seq (.seq (.reg [] [xC 19 (.mv kZ)])
 (.block 0 (.loop (.seq (.reg [] [xC 20 (.bin .lss (.t 19) (kN 3))])
 (.seq (.cond (.t 20) .skip (.exit 0))
 (.seq (.block 1 (.seq (.reg [] [xC 21 (.mv (.t 19)),
 xC 8 (.mv (.t 21))])
 (.seq (.seq (.reg [] [xC 22 (.mv (.t 8)),
 xC 23 (.iaa 3 1 (.t 7) (.t 22)),
 xC 24 (.ld false 1 (.t 23)),
 xC 25 (.bin .neq (.t 24) (.k (.lit (.int .i64 (-1)))))])
 (.cond (.t 25) (.exit 1) .skip))
 (.seq (.regd [9, 10] [[], [0], [1], [2], [], [4], [5], [6], [7], [3, 8], [9], [], [11], [12], [13], [], [15], [16], [17], [18], [14, 19], [20], [], [], [22, 10, 0, 1, 2, 3, 4, 5, 6, 7, 8, 9, 10, 22, 23], [23, 21, 24, 0, 1, 2, 3, 4, 5, 6, 7, 8, 9, 10, 11, 12, 13, 14, 15, 16, 17, 18, 19, 20, 21, 22, 23, 24]] [xU 26 (.mv (.t 0)),
 xU 27 (.nck (.t 26)),
 xU 28 (.fad 0 (.t 27)),
 xV 29 (.ld false 1 (.t 28)),
 xU 30 (.mv (.t 8)),
 xU 31 (.bin .add (.t 30) (kN 1)),
 xU 32 (.bin .rem (.t 31) (kN 3)),
 (xC 33 (.iaa 3 1 (.t 7) (.t 32)), ⟨[7], none, false, false⟩),
 (xC 34 (.ld false 1 (.t 33)), ⟨[7], none, false, false⟩),
 xU 35 (.iad 2 (.t 29) (.t 34)),
 xV 36 (.ld true 2 (.t 35)),
 xU 37 (.mv (.t 0)),
 xU 38 (.nck (.t 37)),
 xU 39 (.fad 0 (.t 38)),
 xV 40 (.ld false 1 (.t 39)),
 xU 41 (.mv (.t 8)),
 xU 42 (.bin .add (.t 41) (kN 2)),
 xU 43 (.bin .rem (.t 42) (kN 3)),
 (xC 44 (.iaa 3 1 (.t 7) (.t 43)), ⟨[7], none, false, false⟩),
 (xC 45 (.ld false 1 (.t 44)), ⟨[7], none, false, false⟩),
 xU 46 (.iad 2 (.t 40) (.t 45)),
 xV 47 (.ld true 2 (.t 46)),
 (xC 9 (.new [(zN 0), (zN 0)]), ⟨[9], some 9, false, false⟩),
 (xC 10 (.new [(zN 0), (zN 0)]), ⟨[10], some 10, false, false⟩),
 (⟨none, none, (.st 2 (.t 9) (.t 36))⟩, ⟨[9], some 9, false, false⟩),
 (⟨none, none, (.st 2 (.t 10) (.t 47))⟩, ⟨[10], some 10, false, false⟩)])
 (.seq (.reg [] [xC 48 (.ld true 2 (.t 9)),
 xC 49 (.ld true 2 (.t 10)),
 xC 50 (.ld true 2 (.t 5)),
 xC 51 (.call 89 [(.t 48), (.t 49), (.t 50)]),
 xC 52 (.bin .gtr (.t 51) kZ),
 xC 53 (.mv (.t 52)),
 ⟨(some 54), (some (53, false)), (.ld true 2 (.t 5))⟩,
 ⟨(some 55), (some (53, false)), (.ld true 2 (.t 9))⟩,
 ⟨(some 56), (some (53, false)), (.ld true 2 (.t 10))⟩,
 ⟨(some 57), (some (53, false)), (.call 90 [(.t 54), (.t 55), (.t 56)])⟩,
 xC 58 (.pick (.t 53) (.k bT) (.t 57)),
 xC 6 (.mv (.t 58))])
 .ret)))))
 (.reg [] [xC 59 (.bin .add (.t 19) (kN 1)),
 xC 19 (.mv (.t 59))])))))))
 (.seq (.regd [] [[], [0], [1], [2], [], [4], [3, 5], [6], [], [8], [9], [10], [], [12], [11, 13], [14], [], [16], [17], [18], [], [20], [19, 21], [22], [], [7, 15, 23, 24], [25], [26, 25, 0, 1, 2, 3, 4, 5, 6, 7, 8, 9, 10, 11, 12, 13, 14, 15, 16, 17, 18, 19, 20, 21, 22, 23, 24, 25, 26]] [xU 60 (.mv (.t 0)),
 xU 61 (.nck (.t 60)),
 xU 62 (.fad 0 (.t 61)),
 xV 63 (.ld false 1 (.t 62)),
 (xC 64 (.iaa 3 1 (.t 7) kZ), ⟨[7], none, false, false⟩),
 (xC 65 (.ld false 1 (.t 64)), ⟨[7], none, false, false⟩),
 xU 66 (.iad 2 (.t 63) (.t 65)),
 xV 67 (.ld true 2 (.t 66)),
 xU 68 (.mv (.t 0)),
 xU 69 (.nck (.t 68)),
 xU 70 (.fad 0 (.t 69)),
 xV 71 (.ld false 1 (.t 70)),
 (xC 72 (.iaa 3 1 (.t 7) (kN 1)), ⟨[7], none, false, false⟩),
 (xC 73 (.ld false 1 (.t 72)), ⟨[7], none, false, false⟩),
 xU 74 (.iad 2 (.t 71) (.t 73)),
 xV 75 (.ld true 2 (.t 74)),
 xU 76 (.mv (.t 0)),
 xU 77 (.nck (.t 76)),
 xU 78 (.fad 0 (.t 77)),
 xV 79 (.ld false 1 (.t 78)),
 (xC 80 (.iaa 3 1 (.t 7) (kN 2)), ⟨[7], none, false, false⟩),
 (xC 81 (.ld false 1 (.t 80)), ⟨[7], none, false, false⟩),
 xU 82 (.iad 2 (.t 79) (.t 81)),
 xV 83 (.ld true 2 (.t 82)),
 (xC 84 (.ld true 2 (.t 5)), ⟨[5], none, false, false⟩),
 xV 85 (.call 91 [(.t 67), (.t 75), (.t 83), (.t 84)]),
 xU 86 (.bin .gtr (.t 85) kZ),
 xU 6 (.mv (.t 86))])
 .ret)))), [(.tmp 6)], [], true⟩
theorem hb52 : hasBody Tryz.prog 52 = true := by kernel_rfl
theorem fk52 : FEOK Tryz.prog 52 fe52 := ⟨by kernel_rfl, by kernel_rfl, hb52⟩
/-- slices.Sort[[]int,int] -/
def fe53 : FE := ⟨11, (.seq (.reg [] [xC 3 (.mv (.t 0)),
 xC 4 (.len (.t 3)),
 xC 2 (.mv (.t 4))])
 (.reg [] [xC 5 (.mv (.t 0)),
 xC 6 (.mv (.t 2)),
 xC 7 (.mv (.t 2)),
 xC 8 (.cv .u64 (.t 7)),
 xC 9 (.call 93 [(.t 8)]),
 xC 10 (.call 92 [(.t 5), kZ, (.t 6), (.t 9)])])), [], [], false⟩
theorem hb53 : hasBody Tryz.prog 53 = true := by kernel_rfl
theorem fk53 : FEOK Tryz.prog 53 fe53 := ⟨by kernel_rfl, by kernel_rfl, hb53⟩
/-- slices.Index[[]int,int] -/
def fe54 : FE := ⟨19, (.seq (.reg [] [xC 4 (.mv kZ)])
 (.seq (.seq (.reg [] [xC 6 (.mv (.t 0)),
 xC 7 (.len (.t 6)),
 xC 8 (.mv kZ)])
 (.block 0 (.loop (.seq (.reg [] [xC 9 (.bin .lss (.t 8) (.t 7))])
 (.seq (.cond (.t 9) .skip (.exit 0))
 (.seq (.block 1 (.seq (.reg [] [xC 10 (.mv (.t 8)),
 xC 5 (.mv (.t 10))])
 (.seq (.reg [] [xC 11 (.mv (.t 1)),
 xC 12 (.mv (.t 0)),
 xC 13 (.mv (.t 5)),
 xC 14 (.iad 1 (.t 12) (.t 13)),
 xC 15 (.ld false 1 (.t 14)),
 xC 16 (.bin .eql (.t 11) (.t 15))])
 (.cond (.t 16) (.seq (.reg [] [xC 17 (.mv (.t 5)),
 xC 4 (.mv (.t 17))])
 .ret) .skip))))
 (.reg [] [xC 18 (.bin .add (.t 8) (kN 1)),
 xC 8 (.mv (.t 18))])))))))
 (.seq (.reg [] [xC 4 (.mv (.k (.lit (.int .i64 (-1)))))])
 .ret))), [(.tmp 4)], [], true⟩
theorem hb54 : hasBody Tryz.prog 54 = true := by kernel_rfl
theorem fk54 : FEOK Tryz.prog 54 fe54 := ⟨by kernel_rfl, by kernel_rfl, hb54⟩
/-- isohyet/pred.Dist2 -/
def fe55 : FE := ⟨26, (.seq (.reg [2, 3, 4] [xC 2 (.box (.t 0)),
 xC 3 (.box (.t 1)),
 xC 4 (.new [bF, sZ])])
 (.seq (.regd [] [[], [0], [], [2], [1, 3], [], [5], [], [7], [6, 8], [4, 0, 1, 2, 3, 4], [9, 10, 0, 1, 2, 3, 4, 5, 6, 7, 8, 9, 10]] [(xC 7 (.fad 0 (.t 2)), ⟨[2], none, false, false⟩),
 (xC 8 (.ld false 1 (.t 7)), ⟨[2], none, false, false⟩),
 (xC 9 (.fad 0 (.t 3)), ⟨[3], none, false, false⟩),
 (xC 10 (.ld false 1 (.t 9)), ⟨[3], none, false, false⟩),
 xU 11 (.bin .sub (.t 8) (.t 10)),
 (xC 12 (.fad 1 (.t 2)), ⟨[2], none, false, false⟩),
 (xC 13 (.ld false 1 (.t 12)), ⟨[2], none, false, false⟩),
 (xC 14 (.fad 1 (.t 3)), ⟨[3], none, false, false⟩),
 (xC 15 (.ld false 1 (.t 14)), ⟨[3], none, false, false⟩),
 xU 16 (.bin .sub (.t 13) (.t 15)),
 xU 5 (.mv (.t 11)),
 xU 6 (.mv (.t 16))])
 (.seq (.reg [] [xC 17 (.mv (.t 5)),
 xC 18 (.mv (.t 5)),
 xC 19 (.call 95 [(.t 17), (.t 18)]),
 xC 20 (.call 94 [(.t 19)]),
 xC 21 (.mv (.t 6)),
 xC 22 (.mv (.t 6)),
 xC 23 (.call 95 [(.t 21), (.t 22)]),
 xC 24 (.call 94 [(.t 23)]),
 xC 25 (.call 64 [(.t 20), (.t 24)]),
 ⟨none, none, (.st 2 (.t 4) (.t 25))⟩])
 .ret))), [(.cell 4 true 2)], [], true⟩
theorem hb55 : hasBody Tryz.prog 55 = true := by kernel_rfl
theorem fk55 : FEOK Tryz.prog 55 fe55 := ⟨by kernel_rfl, by kernel_rfl, hb55⟩
/-- isohyet/num.Mul -/
def fe56 : FE := ⟨16, (.seq (.reg [2, 3, 4] [xC 2 (.box (.t 0)),
 xC 3 (.box (.t 1)),
 xC 4 (.new [bF, sZ])])
 (.seq (.regd [] [[], [0], [], [2], [1, 3], [], [5], [], [7], [6, 8], [4, 9, 9], [10, 10, 0, 1, 2, 3, 4, 5, 6, 7, 8, 9, 10]] [(xC 5 (.fad 0 (.t 2)), ⟨[2], none, false, false⟩),
 (xC 6 (.ld false 1 (.t 5)), ⟨[2], none, false, false⟩),
 (xC 7 (.fad 0 (.t 3)), ⟨[3], none, false, false⟩),
 (xC 8 (.ld false 1 (.t 7)), ⟨[3], none, false, false⟩),
 xU 9 (.eqb true (.t 6) (.t 8)),
 (xC 10 (.fad 1 (.t 2)), ⟨[2], none, false, false⟩),
 (xC 11 (.ld false 1 (.t 10)), ⟨[2], none, false, false⟩),
 (xC 12 (.fad 1 (.t 3)), ⟨[3], none, false, false⟩),
 (xC 13 (.ld false 1 (.t 12)), ⟨[3], none, false, false⟩),
 xV 14 (.call 63 [(.t 11), (.t 13)]),
 xV 15 (.call 96 [(.t 9), (.t 14)]),
 (⟨none, none, (.st 2 (.t 4) (.t 15))⟩, ⟨[4], some 4, false, false⟩)])
 .ret)), [(.cell 4 true 2)], [], true⟩
theorem hb56 : hasBody Tryz.prog 56 = true := by kernel_rfl
theorem fk56 : FEOK Tryz.prog 56 fe56 := ⟨by kernel_rfl, by kernel_rfl, hb56⟩
/-- isohyet/pred.Area2 -/
def fe57 : FE := ⟨12, (.seq (.reg [3, 4, 5, 6] [xC 3 (.box (.t 0)),
 xC 4 (.box (.t 1)),
 xC 5 (.box (.t 2)),
 xC 6 (.new [bF, sZ])])
 (.seq (.reg [] [xC 7 (.ld true 2 (.t 3)),
 xC 8 (.ld true 2 (.t 4)),
 xC 9 (.ld true 2 (.t 5)),
 xC 10 (.call 97 [(.t 7), (.t 8), (.t 9)]),
 xC 11 (.call 94 [(.t 10)]),
 ⟨none, none, (.st 2 (.t 6) (.t 11))⟩])
 .ret)), [(.cell 6 true 2)], [], true⟩
theorem hb57 : hasBody Tryz.prog 57 = true := by kernel_rfl
theorem fk57 : FEOK Tryz.prog 57 fe57 := ⟨by kernel_rfl, by kernel_rfl, hb57⟩
/-- isohyet/frac.Make -/
def fe58 : FE := ⟨21, (.seq (.reg [2, 3, 4] [xC 2 (.box (.t 0)),
 xC 3 (.box (.t 1)),
 xC 4 (.new [bF, sZ, sZ]),
 xC 5 (.mv (.k bF))])
 (.seq (.seq (.reg [] [xC 6 (.ld true 2 (.t 3)),
 xC 7 (.call 66 [(.t 6)]),
 xC 8 (.bin .eql (.t 7) kZ)])
 (.cond (.t 8) (.seq (.reg [] [xC 9 (.call 16 [kZ]),
 ⟨none, none, (.st 3 (.t 4) (.t 9))⟩,
 xC 5 (.mv (.k bF))])
 .ret) .skip))
 (.seq (.regd [] [[], [0], [], [2], [1, 3], [], [5], [4, 6], [], [8], [7, 9, 7], [10, 10, 0, 1, 2, 3, 4, 5, 6, 7, 8, 9, 10], [11, 0, 1, 2, 3, 4, 5, 6, 7, 8, 9, 10, 11]] [(xC 10 (.fad 0 (.t 2)), ⟨[2], none, false, false⟩),
 (xC 11 (.ld false 1 (.t 10)), ⟨[2], none, false, false⟩),
 (xC 12 (.fad 0 (.t 3)), ⟨[3], none, false, false⟩),
 (xC 13 (.ld false 1 (.t 12)), ⟨[3], none, false, false⟩),
 xU 14 (.eqb true (.t 11) (.t 13)),
 (xC 15 (.fad 1 (.t 2)), ⟨[2], none, false, false⟩),
 (xC 16 (.ld false 1 (.t 15)), ⟨[2], none, false, false⟩),
 xV 17 (.call 96 [(.t 14), (.t 16)]),
 (xC 18 (.fad 1 (.t 3)), ⟨[3], none, false, false⟩),
 (xC 19 (.ld false 1 (.t 18)), ⟨[3], none, false, false⟩),
 xV 20 (.call 60 [(.t 17), (.t 19)]),
 (⟨none, none, (.st 3 (.t 4) (.t 20))⟩, ⟨[4], some 4, false, false⟩),
 xU 5 (.mv (.k bT))])
 .ret))), [(.cell 4 true 3), (.tmp 5)], [], true⟩
theorem hb58 : hasBody Tryz.prog 58 = true := by kernel_rfl
theorem fk58 : FEOK Tryz.prog 58 fe58 := ⟨by kernel_rfl, by kernel_rfl, hb58⟩
/-- isohyet/spot.det -/
def fe59 : FE := ⟨16, (.seq (.reg [4, 5, 6, 7, 8] [xC 4 (.box (.t 0)),
 xC 5 (.box (.t 1)),
 xC 6 (.box (.t 2)),
 xC 7 (.box (.t 3)),
 xC 8 (.new [bF, sZ])])
 (.seq (.regd [] [[], [], [0, 1], [], [], [3, 4, 2], [2, 5, 5], [6, 6, 0, 1, 2, 3, 4, 5, 6]] [(xC 9 (.ld true 2 (.t 4)), ⟨[4], none, false, false⟩),
 (xC 10 (.ld true 2 (.t 7)), ⟨[7], none, false, false⟩),
 xV 11 (.call 56 [(.t 9), (.t 10)]),
 (xC 12 (.ld true 2 (.t 5)), ⟨[5], none, false, false⟩),
 (xC 13 (.ld true 2 (.t 6)), ⟨[6], none, false, false⟩),
 xV 14 (.call 56 [(.t 12), (.t 13)]),
 xV 15 (.call 98 [(.t 11), (.t 14)]),
 (⟨none, none, (.st 2 (.t 8) (.t 15))⟩, ⟨[8], some 8, false, false⟩)])
 .ret)), [(.cell 8 true 2)], [], true⟩
theorem hb59 : hasBody Tryz.prog 59 = true := by kernel_rfl
theorem fk59 : FEOK Tryz.prog 59 fe59 := ⟨by kernel_rfl, by kernel_rfl, hb59⟩
/-- isohyet/frac.low -/
def fe60 : FE := ⟨47, (.seq (.reg [2, 4] [xC 2 (.box (.t 0)),
 xC 4 (.new [bF, sZ, sZ])])
 (.seq (.reg [] [xC 10 (.call 81 []),
 xC 5 (.mv (.t 10))])
 (.seq (.seq (.reg [] [xC 11 (.mv (.t 1)),
 xC 12 (.call 99 [(.t 11)]),
 xC 13 (.un .not (.t 12))])
 (.cond (.t 13) (.reg [] [xC 14 (.fad 1 (.t 2)),
 xC 15 (.ld false 1 (.t 14)),
 xC 16 (.mv (.t 1)),
 xC 17 (.call 100 [(.t 15), (.t 16)]),
 xC 5 (.mv (.t 17))]) .skip))
 (.seq (.seq (.reg [] [xC 18 (.mv (.t 5)),
 xC 19 (.call 99 [(.t 18)])])
 (.cond (.t 19) (.seq (.reg [] [xC 20 (.fad 0 (.t 2)),
 xC 21 (.ld false 1 (.t 20)),
 xC 22 (.fad 1 (.t 2)),
 xC 23 (.ld false 1 (.t 22)),
 xC 24 (.call 96 [(.t 21), (.t 23)]),
 xC 25 (.mv (.t 1)),
 xC 26 (.call 101 [(.t 25), (.k sZ)]),
 xC 27 (.bld [bF, sZ, sZ] [(0, (2, (.t 24))), (2, (1, (.t 26)))]),
 ⟨none, none, (.st 3 (.t 4) (.t 27))⟩])
 .ret) .skip))
 (.seq (.reg [] [xC 29 (.fad 1 (.t 2)),
 xC 30 (.ld false 1 (.t 29)),
 xC 31 (.mv (.t 5)),
 xC 32 (.call 102 [(.t 30), (.t 31)]),
 xC 28 (.mv (.t 32)),
 xC 33 (.ext (.t 28) 0),
 xC 34 (.ext (.t 28) 1),
 xC 6 (.mv (.t 33)),
 xC 7 (.mv (.t 34))])
 (.seq (.reg [] [xC 36 (.mv (.t 1)),
 xC 37 (.mv (.t 5)),
 xC 38 (.call 102 [(.t 36), (.t 37)]),
 xC 35 (.mv (.t 38)),
 xC 39 (.ext (.t 35) 0),
 xC 40 (.ext (.t 35) 1),
 xC 8 (.mv (.t 39)),
 xC 9 (.mv (.t 40))])
 (.seq (.reg [] [xC 41 (.fad 0 (.t 2)),
 xC 42 (.ld false 1 (.t 41)),
 xC 43 (.mv (.t 6)),
 xC 44 (.call 96 [(.t 42), (.t 43)]),
 xC 45 (.mv (.t 8)),
 xC 46 (.bld [bF, sZ, sZ] [(0, (2, (.t 44))), (2, (1, (.t 45)))]),
 ⟨none, none, (.st 3 (.t 4) (.t 46))⟩])
 .ret))))))), [(.cell 4 true 3)], [], true⟩
theorem hb60 : hasBody Tryz.prog 60 = true := by kernel_rfl
theorem fk60 : FEOK Tryz.prog 60 fe60 := ⟨by kernel_rfl, by kernel_rfl, hb60⟩
/-- isohyet/num.Neg -/
def fe61 : FE := ⟨9, (.seq (.reg [1, 2] [xC 1 (.box (.t 0)),
 xC 2 (.new [bF, sZ])])
 (.seq (.reg [] [xC 3 (.fad 0 (.t 1)),
 xC 4 (.ld false 1 (.t 3)),
 xC 5 (.un .not (.t 4)),
 xC 6 (.fad 1 (.t 1)),
 xC 7 (.ld false 1 (.t 6)),
 xC 8 (.call 96 [(.t 5), (.t 7)]),
 ⟨none, none, (.st 2 (.t 2) (.t 8))⟩])
 .ret)), [(.cell 2 true 2)], [], true⟩
theorem hb61 : hasBody Tryz.prog 61 = true := by kernel_rfl
theorem fk61 : FEOK Tryz.prog 61 fe61 := ⟨by kernel_rfl, by kernel_rfl, hb61⟩
/-- isohyet/frac.den -/
def fe62 : FE := ⟨10, (.seq (.reg [1] [xC 1 (.box (.t 0)),
 xC 2 (.mv (.k sZ))])
 (.seq (.seq (.reg [] [xC 3 (.fad 2 (.t 1)),
 xC 4 (.ld false 1 (.t 3)),
 xC 5 (.call 103 [(.t 4)]),
 xC 6 (.bin .eql (.t 5) kZ)])
 (.cond (.t 6) (.seq (.reg [] [xC 7 (.call 81 []),
 xC 2 (.mv (.t 7))])
 .ret) .skip))
 (.seq (.reg [] [xC 8 (.fad 2 (.t 1)),
 xC 9 (.ld false 1 (.t 8)),
 xC 2 (.mv (.t 9))])
 .ret))), [(.tmp 2)], [], true⟩
theorem hb62 : hasBody Tryz.prog 62 = true := by kernel_rfl
theorem fk62 : FEOK Tryz.prog 62 fe62 := ⟨by kernel_rfl, by kernel_rfl, hb62⟩
/-- isohyet/mag.Mul -/
def fe63 : FE := ⟨79, (.seq (.reg [] [xC 4 (.mv (.k sZ))])
 (.seq (.reg [] [xC 14 (.mv (.t 0)),
 xC 15 (.len (.t 14)),
 xC 16 (.mv (.t 1)),
 xC 17 (.len (.t 16)),
 xC 18 (.bin .add (.t 15) (.t 17)),
 xC 19 (.mks 1 8 [(.lit (.int .u64 0))] (.t 18) (.t 18)),
 xC 5 (.mv (.t 19))])
 (.seq (.seq (.reg [] [xC 20 (.mv (.t 0)),
 xC 21 (.len (.t 20)),
 xC 22 (.mv kZ)])
 (.block 0 (.loop (.seq (.reg [] [xC 23 (.bin .lss (.t 22) (.t 21))])
 (.seq (.cond (.t 23) .skip (.exit 0))
 (.seq (.block 1 (.seq (.reg [] [xC 24 (.mv (.t 22)),
 xC 25 (.iad 1 (.t 20) (.t 22)),
 xC 26 (.ld false 1 (.t 25)),
 xC 6 (.mv (.t 24)),
 xC 7 (.mv (.t 26))])
 (.seq (.reg [] [xC 8 (.mv (.k (.lit (.int .u64 0))))])
 (.seq (.seq (.reg [] [xC 27 (.mv (.t 1)),
 xC 28 (.len (.t 27)),
 xC 29 (.mv kZ)])
 (.block 2 (.loop (.seq (.reg [] [xC 30 (.bin .lss (.t 29) (.t 28))])
 (.seq (.cond (.t 30) .skip (.exit 2))
 (.seq (.block 3 (.seq (.reg [] [xC 31 (.mv (.t 29)),
 xC 32 (.iad 1 (.t 27) (.t 29)),
 xC 33 (.ld false 1 (.t 32)),
 xC 9 (.mv (.t 31)),
 xC 10 (.mv (.t 33))])
 (.seq (.reg [] [xC 35 (.mv (.t 7)),
 xC 36 (.mv (.t 10)),
 xC 37 (.call 104 [(.t 35), (.t 36)]),
 xC 34 (.mv (.t 37)),
 xC 38 (.ext (.t 34) 0),
 xC 39 (.ext (.t 34) 1),
 xC 11 (.mv (.t 38)),
 xC 12 (.mv (.t 39))])
 (.seq (.reg [] [xC 13 (.mv (.k (.lit (.int .u64 0))))])
 (.seq (.reg [] [xC 41 (.mv (.t 12)),
 xC 42 (.mv (.t 8)),
 xC 43 (.adc (.t 41) (.t 42) (.k (.lit (.int .u64 0)))),
 xC 40 (.mv (.t 43)),
 xC 44 (.ext (.t 40) 0),
 xC 45 (.ext (.t 40) 1),
 xC 12 (.mv (.t 44)),
 xC 13 (.mv (.t 45))])
 (.seq (.reg [] [xC 46 (.mv (.t 11)),
 xC 47 (.mv (.t 13)),
 xC 48 (.bin .add (.t 46) (.t 47)),
 xC 11 (.mv (.t 48))])
 (.seq (.reg [] [xC 50 (.mv (.t 5)),
 xC 51 (.mv (.t 6)),
 xC 52 (.mv (.t 9)),
 xC 53 (.bin .add (.t 51) (.t 52)),
 xC 54 (.mv (.t 5)),
 xC 55 (.mv (.t 6)),
 xC 56 (.mv (.t 9)),
 xC 57 (.bin .add (.t 55) (.t 56)),
 xC 58 (.iad 1 (.t 54) (.t 57)),
 xC 59 (.ld false 1 (.t 58)),
 xC 60 (.mv (.t 12)),
 xC 61 (.adc (.t 59) (.t 60) (.k (.lit (.int .u64 0)))),
 xC 49 (.mv (.t 61)),
 xC 62 (.ext (.t 49) 0),
 xC 63 (.ext (.t 49) 1),
 xC 64 (.iad 1 (.t 50) (.t 53)),
 ⟨none, none, (.st 1 (.t 64) (.t 62))⟩,
 xC 13 (.mv (.t 63))])
 (.reg [] [xC 65 (.mv (.t 11)),
 xC 66 (.mv (.t 13)),
 xC 67 (.bin .add (.t 65) (.t 66)),
 xC 8 (.mv (.t 67))]))))))))
 (.reg [] [xC 68 (.bin .add (.t 29) (kN 1)),
 xC 29 (.mv (.t 68))])))))))
 (.reg [] [xC 69 (.mv (.t 5)),
 xC 70 (.mv (.t 6)),
 xC 71 (.mv (.t 1)),
 xC 72 (.len (.t 71)),
 xC 73 (.bin .add (.t 70) (.t 72)),
 xC 74 (.mv (.t 8)),
 xC 75 (.iad 1 (.t 69) (.t 73)),
 ⟨none, none, (.st 1 (.t 75) (.t 74))⟩])))))
 (.reg [] [xC 76 (.bin .add (.t 22) (kN 1)),
 xC 22 (.mv (.t 76))])))))))
 (.seq (.reg [] [xC 77 (.mv (.t 5)),
 xC 78 (.call 106 [(.t 77)]),
 xC 4 (.mv (.t 78))])
 .ret)))), [(.tmp 4)], [], true⟩
theorem hb63 : hasBody Tryz.prog 63 = true := by kernel_rfl
theorem fk63 : FEOK Tryz.prog 63 fe63 := ⟨by kernel_rfl, by kernel_rfl, hb63⟩
/-- isohyet/num.Add -/
def fe64 : FE := ⟨40, (.seq (.reg [2, 3, 4] [xC 2 (.box (.t 0)),
 xC 3 (.box (.t 1)),
 xC 4 (.new [bF, sZ])])
 (.seq (.seq (.reg [] [xC 5 (.fad 0 (.t 2)),
 xC 6 (.ld false 1 (.t 5)),
 xC 7 (.fad 0 (.t 3)),
 xC 8 (.ld false 1 (.t 7)),
 xC 9 (.eqb false (.t 6) (.t 8))])
 (.cond (.t 9) (.seq (.regd [] [[], [0], [], [2], [], [4], [3, 5], [1, 6, 6], [7, 7, 0, 1, 2, 3, 4, 5, 6, 7]] [(xC 10 (.fad 0 (.t 2)), ⟨[2], none, false, false⟩),
 (xC 11 (.ld false 1 (.t 10)), ⟨[2], none, false, false⟩),
 (xC 12 (.fad 1 (.t 2)), ⟨[2], none, false, false⟩),
 (xC 13 (.ld false 1 (.t 12)), ⟨[2], none, false, false⟩),
 (xC 14 (.fad 1 (.t 3)), ⟨[3], none, false, false⟩),
 (xC 15 (.ld false 1 (.t 14)), ⟨[3], none, false, false⟩),
 xV 16 (.call 101 [(.t 13), (.t 15)]),
 xV 17 (.call 96 [(.t 11), (.t 16)]),
 (⟨none, none, (.st 2 (.t 4) (.t 17))⟩, ⟨[4], some 4, false, false⟩)])
 .ret) .skip))
 (.seq (.seq (.reg [] [xC 18 (.fad 1 (.t 2)),
 xC 19 (.ld false 1 (.t 18)),
 xC 20 (.fad 1 (.t 3)),
 xC 21 (.ld false 1 (.t 20)),
 xC 22 (.call 107 [(.t 19), (.t 21)]),
 xC 23 (.bin .geq (.t 22) kZ)])
 (.cond (.t 23) (.seq (.regd [] [[], [0], [], [2], [], [4], [3, 5], [1, 6, 6], [7, 7, 0, 1, 2, 3, 4, 5, 6, 7]] [(xC 24 (.fad 0 (.t 2)), ⟨[2], none, false, false⟩),
 (xC 25 (.ld false 1 (.t 24)), ⟨[2], none, false, false⟩),
 (xC 26 (.fad 1 (.t 2)), ⟨[2], none, false, false⟩),
 (xC 27 (.ld false 1 (.t 26)), ⟨[2], none, false, false⟩),
 (xC 28 (.fad 1 (.t 3)), ⟨[3], none, false, false⟩),
 (xC 29 (.ld false 1 (.t 28)), ⟨[3], none, false, false⟩),
 xV 30 (.call 108 [(.t 27), (.t 29)]),
 xV 31 (.call 96 [(.t 25), (.t 30)]),
 (⟨none, none, (.st 2 (.t 4) (.t 31))⟩, ⟨[4], some 4, false, false⟩)])
 .ret) .skip))
 (.seq (.regd [] [[], [0], [], [2], [], [4], [3, 5], [1, 6, 6], [7, 7, 0, 1, 2, 3, 4, 5, 6, 7]] [(xC 32 (.fad 0 (.t 3)), ⟨[3], none, false, false⟩),
 (xC 33 (.ld false 1 (.t 32)), ⟨[3], none, false, false⟩),
 (xC 34 (.fad 1 (.t 3)), ⟨[3], none, false, false⟩),
 (xC 35 (.ld false 1 (.t 34)), ⟨[3], none, false, false⟩),
 (xC 36 (.fad 1 (.t 2)), ⟨[2], none, false, false⟩),
 (xC 37 (.ld false 1 (.t 36)), ⟨[2], none, false, false⟩),
 xV 38 (.call 108 [(.t 35), (.t 37)]),
 xV 39 (.call 96 [(.t 33), (.t 38)]),
 (⟨none, none, (.st 2 (.t 4) (.t 39))⟩, ⟨[4], some 4, false, false⟩)])
 .ret)))), [(.cell 4 true 2)], [], true⟩
theorem hb64 : hasBody Tryz.prog 64 = true := by kernel_rfl
theorem fk64 : FEOK Tryz.prog 64 fe64 := ⟨by kernel_rfl, by kernel_rfl, hb64⟩
/-- isohyet/frac.below -/
def fe65 : FE := ⟨6, (.seq (.reg [1, 2] [xC 1 (.box (.t 0)),
 xC 2 (.new [bF, sZ])])
 (.seq (.reg [] [xC 3 (.ld true 3 (.t 1)),
 xC 4 (.call 62 [(.t 3)]),
 xC 5 (.bld [bF, sZ] [(1, (1, (.t 4)))]),
 ⟨none, none, (.st 2 (.t 2) (.t 5))⟩])
 .ret)), [(.cell 2 true 2)], [], true⟩
theorem hb65 : hasBody Tryz.prog 65 = true := by kernel_rfl
theorem fk65 : FEOK Tryz.prog 65 fe65 := ⟨by kernel_rfl, by kernel_rfl, hb65⟩
/-- isohyet/num.Sign -/
def fe66 : FE := ⟨11, (.seq (.reg [1] [xC 1 (.box (.t 0)),
 xC 2 (.mv kZ)])
 (.seq (.block 0 (.seq (.reg [] [xC 4 (.fad 1 (.t 1)),
 xC 5 (.ld false 1 (.t 4)),
 xC 6 (.call 103 [(.t 5)]),
 xC 7 (.bin .eql (.t 6) kZ),
 xC 3 (.mv (.t 7))])
 (.cond (.t 3) (.seq (.reg [] [xC 2 (.mv kZ)])
 .ret) (.seq (.reg [] [xC 9 (.fad 0 (.t 1)),
 xC 10 (.ld false 1 (.t 9)),
 xC 8 (.mv (.t 10))])
 (.cond (.t 8) (.seq (.reg [] [xC 2 (.mv (.k (.lit (.int .i64 (-1)))))])
 .ret) .skip)))))
 (.seq (.reg [] [xC 2 (.mv (kN 1))])
 .ret))), [(.tmp 2)], [], true⟩
theorem hb66 : hasBody Tryz.prog 66 = true := by kernel_rfl
theorem fk66 : FEOK Tryz.prog 66 fe66 := ⟨by kernel_rfl, by kernel_rfl, hb66⟩
/-- slices.SortStableFunc[[]isohyet/steal.Share,isohyet/steal.Share] -/
def fe67 : FE := ⟨9, (.reg [] [xC 4 (.mv (.t 0)),
 xC 5 (.mv (.t 0)),
 xC 6 (.len (.t 5)),
 xC 7 (.mv (.t 1)),
 xC 8 (.call 109 [(.t 4), (.t 6), (.t 7)])]), [], [], false⟩
theorem hb67 : hasBody Tryz.prog 67 = true := by kernel_rfl
theorem fk67 : FEOK Tryz.prog 67 fe67 := ⟨by kernel_rfl, by kernel_rfl, hb67⟩
end Iso
