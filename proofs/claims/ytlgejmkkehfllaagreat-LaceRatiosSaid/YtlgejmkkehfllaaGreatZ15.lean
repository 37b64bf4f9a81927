import Derived.Test.YtlgejmkkehfllaaGreatZ14
/- What is run ahead, for the anchor of law 15: ratios. -/
namespace Iso
open Go Go.Proofs

theorem r1 : runsTo tb0 Tryz.prog 3000 14 [pPt 1 1, pPt 0 0, spN 0 1, spN 1 0] (.agg (frN 1)) = true := by kernel_rfl
theorem r2 : runsTo tb0 Tryz.prog 3000 14 [pPt 1 1, pPt 2 0, spN 1 0, spN 2 1] (.agg (frN 1)) = true := by kernel_rfl
theorem r3 : runsTo tb0 Tryz.prog 3000 14 [pPt 1 1, pPt 2 2, spN 2 1, spN 1 2] (.agg (frN 1)) = true := by kernel_rfl
theorem r4 : runsTo tb0 Tryz.prog 3000 14 [pPt 1 1, pPt 0 2, spN 1 2, spN 0 1] (.agg (frN 1)) = true := by kernel_rfl
theorem r5 : runsTo tb0 Tryz.prog 3000 14 [pPt 0 0, pPt 2 0, spN 1 0, spN 1 4] (.agg (frN 2)) = true := by kernel_rfl
end Iso
