import Derived.Test.YtlgejmkkehfllaaGreatZ15
/- The anchor of law 15, run. -/
namespace Iso
open Go Go.Proofs

def know14 : List (List V × V) := [([pPt 1 1, pPt 0 0, spN 0 1, spN 1 0], .agg (frN 1)), ([pPt 1 1, pPt 2 0, spN 1 0, spN 2 1], .agg (frN 1)), ([pPt 1 1, pPt 2 2, spN 2 1, spN 1 2], .agg (frN 1)), ([pPt 1 1, pPt 0 2, spN 1 2, spN 0 1], .agg (frN 1)), ([pPt 0 0, pPt 2 0, spN 1 0, spN 1 4], .agg (frN 2))]
def know21 : List (List V × V) := [([pPt 1 1, pPt 0 0, pPt 2 0], .tup [spN 1 0, .lit (.bool true)]), ([pPt 1 1, pPt 2 0, pPt 2 2], .tup [spN 2 1, .lit (.bool true)]), ([pPt 1 1, pPt 2 2, pPt 0 2], .tup [spN 1 2, .lit (.bool true)]), ([pPt 1 1, pPt 0 2, pPt 0 0], .tup [spN 0 1, .lit (.bool true)])]
theorem know14_ok : MemoOK Tryz.prog 14 know14 := by
  refine ⟨hb14, fun p hp H => ?_⟩
  simp only [know14, List.mem_cons, List.not_mem_nil, or_false] at hp
  rcases hp with rfl | rfl | rfl | rfl | rfl
  · exact runsTo_FN hmixd tb0_ok r1 H
  · exact runsTo_FN hmixd tb0_ok r2 H
  · exact runsTo_FN hmixd tb0_ok r3 H
  · exact runsTo_FN hmixd tb0_ok r4 H
  · exact runsTo_FN hmixd tb0_ok r5 H
theorem know21_ok : MemoOK Tryz.prog 21 know21 := by
  refine ⟨hb21, fun p hp H => ?_⟩
  simp only [know21, List.mem_cons, List.not_mem_nil, or_false] at hp
  rcases hp with rfl | rfl | rfl | rfl
  · exact runsTo_FN hmixd tb0_ok c1 H
  · exact runsTo_FN hmixd tb0_ok c2 H
  · exact runsTo_FN hmixd tb0_ok c3 H
  · exact runsTo_FN hmixd tb0_ok c4 H
noncomputable def tb15 : Tb := ⟨tab15, (.node (.node .nil none (.node .nil none (.node (.node .nil (some know21) .nil) none .nil))) none (.node .nil none (.node .nil none (.node .nil (some know14) .nil))))⟩
theorem tb15_ok : TabOK Tryz.prog tb15 := tabOK tab15_ok ⟨⟨trivial, (fun _ h => by cases h), ⟨trivial, (fun _ h => by cases h), ⟨⟨trivial, (fun _ h => Option.some.inj h ▸ know21_ok), trivial⟩, (fun _ h => by cases h), trivial⟩⟩⟩, (fun _ h => by cases h), ⟨trivial, (fun _ h => by cases h), ⟨trivial, (fun _ h => by cases h), ⟨trivial, (fun _ h => Option.some.inj h ▸ know14_ok), trivial⟩⟩⟩⟩

theorem fit15_runs : runsTo tb15 Tryz.prog 4000 12 [] (.lit (.bool true)) = true := by kernel_rfl
/-- The anchor answers true. -/
theorem fn_fit15 (H : AH) : FN Tryz.prog 12 [] H (.lit (.bool true)) H := runsTo_FN hmixd tb15_ok fit15_runs H
end Iso
