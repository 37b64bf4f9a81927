import Derived.Test.YtlgejmkkehfllaaGreatZ13
/- What is run ahead, for the anchor of law 15: corners of the cell. -/
namespace Iso
open Go Go.Proofs

def pI (n : Int) : V := .lit (.int .i64 n)
def pPt (x y : Int) : V := .agg [pI x, pI y]
/-- A whole number that isn't below nought, as a fraction's cells. -/
def digN (n : Nat) : V := match n with | 0 => .vs [] 0 | n + 1 => .vs [.lit (.int .u64 (.ofNat (Nat.succ n)))] 1
def frN (n : Nat) : List V := [.lit (.bool false), digN n, digN 1]
def spN (x y : Nat) : V := .agg (frN x ++ frN y)
noncomputable def tb0 : Tb := ⟨tab15, .nil⟩
theorem tb0_ok : TabOK Tryz.prog tb0 := tabOK tab15_ok trivial
theorem hmixd : Tryz.prog.follows .mixedOrders = true := by kernel_rfl

theorem c1 : runsTo tb0 Tryz.prog 3000 21 [pPt 1 1, pPt 0 0, pPt 2 0] (.tup [spN 1 0, .lit (.bool true)]) = true := by kernel_rfl
theorem c2 : runsTo tb0 Tryz.prog 3000 21 [pPt 1 1, pPt 2 0, pPt 2 2] (.tup [spN 2 1, .lit (.bool true)]) = true := by kernel_rfl
theorem c3 : runsTo tb0 Tryz.prog 3000 21 [pPt 1 1, pPt 2 2, pPt 0 2] (.tup [spN 1 2, .lit (.bool true)]) = true := by kernel_rfl
theorem c4 : runsTo tb0 Tryz.prog 3000 21 [pPt 1 1, pPt 0 2, pPt 0 0] (.tup [spN 0 1, .lit (.bool true)]) = true := by kernel_rfl
end Iso
