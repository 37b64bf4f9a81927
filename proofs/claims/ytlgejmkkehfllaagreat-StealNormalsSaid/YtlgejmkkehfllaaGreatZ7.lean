import Derived.Test.YtlgejmkkehfllaaGreatZ6
/- What is run ahead, for the anchor of law 14: sums, differences, products, corners. -/
namespace Iso
open Go Go.Proofs
def qP (x y : Int) : V := .agg [.lit (.int .i64 x), .lit (.int .i64 y)]
/-- A whole number that isn't below nought, as a fraction's cells. -/
def qD (n : Nat) : V := match n with | 0 => .vs [] 0 | n + 1 => .vs [.lit (.int .u64 (.ofNat (Nat.succ n)))] 1
def qF (n : Nat) : V := .agg [.lit (.bool false), qD n, qD 1]
def qN (n : Nat) : V := .agg [.lit (.bool true), qD n, qD 1]
def qS (x y : Nat) : V := .agg [.lit (.bool false), qD x, qD 1, .lit (.bool false), qD y, qD 1]
noncomputable def tbh : Tb := ⟨tab14, .nil⟩
theorem tbh_ok : TabOK Tryz.prog tbh := tabOK tab14_ok trivial
theorem hmixh : Tryz.prog.follows .mixedOrders = true := by kernel_rfl
theorem h1 : runsTo tbh Tryz.prog 3000 24 [qF 0, qF 0] (qF 0) = true := by kernel_rfl
theorem h2 : runsTo tbh Tryz.prog 3000 24 [qF 0, qF 1] (qF 0) = true := by kernel_rfl
theorem h3 : runsTo tbh Tryz.prog 3000 24 [qF 0, qF 2] (qF 0) = true := by kernel_rfl
theorem h4 : runsTo tbh Tryz.prog 3000 24 [qF 1, qF 0] (qF 0) = true := by kernel_rfl
theorem h5 : runsTo tbh Tryz.prog 3000 24 [qF 1, qF 1] (qF 1) = true := by kernel_rfl
theorem h6 : runsTo tbh Tryz.prog 3000 24 [qF 1, qF 2] (qF 2) = true := by kernel_rfl
theorem h7 : runsTo tbh Tryz.prog 3000 24 [qF 2, qF 0] (qF 0) = true := by kernel_rfl
theorem h8 : runsTo tbh Tryz.prog 3000 24 [qF 2, qF 1] (qF 2) = true := by kernel_rfl
theorem h9 : runsTo tbh Tryz.prog 3000 24 [qF 2, qF 2] (qF 4) = true := by kernel_rfl
theorem h10 : runsTo tbh Tryz.prog 3000 22 [qF 0, qF 1] (qN 1) = true := by kernel_rfl
theorem h11 : runsTo tbh Tryz.prog 3000 22 [qF 1, qF 0] (qF 1) = true := by kernel_rfl
theorem h12 : runsTo tbh Tryz.prog 3000 22 [qF 1, qF 1] (qF 0) = true := by kernel_rfl
theorem h13 : runsTo tbh Tryz.prog 3000 22 [qF 1, qF 2] (qN 1) = true := by kernel_rfl
theorem h14 : runsTo tbh Tryz.prog 3000 22 [qF 2, qF 1] (qF 1) = true := by kernel_rfl
theorem h15 : runsTo tbh Tryz.prog 3000 22 [qF 4, qF 1] (qF 3) = true := by kernel_rfl
theorem h16 : runsTo tbh Tryz.prog 3000 26 [qN 1, qF 1] (qF 0) = true := by kernel_rfl
theorem h17 : runsTo tbh Tryz.prog 3000 26 [qF 0, qN 1] (qN 1) = true := by kernel_rfl
theorem h18 : runsTo tbh Tryz.prog 3000 26 [qF 0, qF 0] (qF 0) = true := by kernel_rfl
theorem h19 : runsTo tbh Tryz.prog 3000 26 [qF 0, qF 1] (qF 1) = true := by kernel_rfl
theorem h20 : runsTo tbh Tryz.prog 3000 26 [qF 0, qF 3] (qF 3) = true := by kernel_rfl
theorem h21 : runsTo tbh Tryz.prog 3000 26 [qF 1, qN 1] (qF 0) = true := by kernel_rfl
theorem h22 : runsTo tbh Tryz.prog 3000 26 [qF 1, qF 1] (qF 2) = true := by kernel_rfl
theorem h23 : runsTo tbh Tryz.prog 3000 26 [qF 1, qF 3] (qF 4) = true := by kernel_rfl
theorem h24 : runsTo tbh Tryz.prog 3000 26 [qF 2, qN 1] (qF 1) = true := by kernel_rfl
theorem h25 : runsTo tbh Tryz.prog 3000 26 [qF 2, qF 0] (qF 2) = true := by kernel_rfl
theorem h26 : runsTo tbh Tryz.prog 3000 26 [qF 2, qF 1] (qF 3) = true := by kernel_rfl
theorem h27 : runsTo tbh Tryz.prog 3000 26 [qF 3, qN 1] (qF 2) = true := by kernel_rfl
theorem h28 : runsTo tbh Tryz.prog 3000 26 [qF 3, qF 1] (qF 4) = true := by kernel_rfl
theorem h29 : runsTo tbh Tryz.prog 3000 26 [qF 4, qF 1] (qF 5) = true := by kernel_rfl
theorem h30 : runsTo tbh Tryz.prog 3000 26 [qF 5, qN 1] (qF 4) = true := by kernel_rfl
theorem h31 : runsTo tbh Tryz.prog 3000 33 [qF 1, qF 4] (.tup [.agg [.lit (.bool false), qD 1, qD 4], .lit (.bool true)]) = true := by kernel_rfl
theorem h32 : runsTo tbh Tryz.prog 3000 21 [qP 1 1, qP 0 0, qP 2 0] (.tup [qS 1 0, .lit (.bool true)]) = true := by kernel_rfl
theorem h33 : runsTo tbh Tryz.prog 3000 21 [qP 1 1, qP 2 0, qP 2 2] (.tup [qS 2 1, .lit (.bool true)]) = true := by kernel_rfl
theorem h34 : runsTo tbh Tryz.prog 3000 21 [qP 1 1, qP 2 2, qP 0 2] (.tup [qS 1 2, .lit (.bool true)]) = true := by kernel_rfl
theorem h35 : runsTo tbh Tryz.prog 3000 21 [qP 1 1, qP 0 2, qP 0 0] (.tup [qS 0 1, .lit (.bool true)]) = true := by kernel_rfl
theorem h36 : runsTo tbh Tryz.prog 3000 21 [qP 0 0, qP 2 0, qP 2 2] (.tup [qS 1 1, .lit (.bool true)]) = true := by kernel_rfl
theorem h37 : runsTo tbh Tryz.prog 3000 21 [qP 0 0, qP 2 2, qP 0 2] (.tup [qS 1 1, .lit (.bool true)]) = true := by kernel_rfl
end Iso
