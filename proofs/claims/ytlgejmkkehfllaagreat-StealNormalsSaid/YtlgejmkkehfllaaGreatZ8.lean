import Derived.Test.YtlgejmkkehfllaaGreatZ7
/- The anchor of law 14, run. -/
namespace Iso
open Go Go.Proofs
def knowh21 : List (List V × V) := [([qP 1 1, qP 0 0, qP 2 0], .tup [qS 1 0, .lit (.bool true)]), ([qP 1 1, qP 2 0, qP 2 2], .tup [qS 2 1, .lit (.bool true)]), ([qP 1 1, qP 2 2, qP 0 2], .tup [qS 1 2, .lit (.bool true)]), ([qP 1 1, qP 0 2, qP 0 0], .tup [qS 0 1, .lit (.bool true)]), ([qP 0 0, qP 2 0, qP 2 2], .tup [qS 1 1, .lit (.bool true)]), ([qP 0 0, qP 2 2, qP 0 2], .tup [qS 1 1, .lit (.bool true)])]
theorem knowh21_ok : MemoOK Tryz.prog 21 knowh21 := by
  refine ⟨hb21, fun p hp H => ?_⟩
  simp only [knowh21, List.mem_cons, List.not_mem_nil, or_false] at hp
  rcases hp with rfl | rfl | rfl | rfl | rfl | rfl
  · exact runsTo_FN hmixh tbh_ok h32 H
  · exact runsTo_FN hmixh tbh_ok h33 H
  · exact runsTo_FN hmixh tbh_ok h34 H
  · exact runsTo_FN hmixh tbh_ok h35 H
  · exact runsTo_FN hmixh tbh_ok h36 H
  · exact runsTo_FN hmixh tbh_ok h37 H
def knowh22 : List (List V × V) := [([qF 0, qF 1], qN 1), ([qF 1, qF 0], qF 1), ([qF 1, qF 1], qF 0), ([qF 1, qF 2], qN 1), ([qF 2, qF 1], qF 1), ([qF 4, qF 1], qF 3)]
theorem knowh22_ok : MemoOK Tryz.prog 22 knowh22 := by
  refine ⟨hb22, fun p hp H => ?_⟩
  simp only [knowh22, List.mem_cons, List.not_mem_nil, or_false] at hp
  rcases hp with rfl | rfl | rfl | rfl | rfl | rfl
  · exact runsTo_FN hmixh tbh_ok h10 H
  · exact runsTo_FN hmixh tbh_ok h11 H
  · exact runsTo_FN hmixh tbh_ok h12 H
  · exact runsTo_FN hmixh tbh_ok h13 H
  · exact runsTo_FN hmixh tbh_ok h14 H
  · exact runsTo_FN hmixh tbh_ok h15 H
def knowh24 : List (List V × V) := [([qF 0, qF 0], qF 0), ([qF 0, qF 1], qF 0), ([qF 0, qF 2], qF 0), ([qF 1, qF 0], qF 0), ([qF 1, qF 1], qF 1), ([qF 1, qF 2], qF 2), ([qF 2, qF 0], qF 0), ([qF 2, qF 1], qF 2), ([qF 2, qF 2], qF 4)]
theorem knowh24_ok : MemoOK Tryz.prog 24 knowh24 := by
  refine ⟨hb24, fun p hp H => ?_⟩
  simp only [knowh24, List.mem_cons, List.not_mem_nil, or_false] at hp
  rcases hp with rfl | rfl | rfl | rfl | rfl | rfl | rfl | rfl | rfl
  · exact runsTo_FN hmixh tbh_ok h1 H
  · exact runsTo_FN hmixh tbh_ok h2 H
  · exact runsTo_FN hmixh tbh_ok h3 H
  · exact runsTo_FN hmixh tbh_ok h4 H
  · exact runsTo_FN hmixh tbh_ok h5 H
  · exact runsTo_FN hmixh tbh_ok h6 H
  · exact runsTo_FN hmixh tbh_ok h7 H
  · exact runsTo_FN hmixh tbh_ok h8 H
  · exact runsTo_FN hmixh tbh_ok h9 H
def knowh26 : List (List V × V) := [([qN 1, qF 1], qF 0), ([qF 0, qN 1], qN 1), ([qF 0, qF 0], qF 0), ([qF 0, qF 1], qF 1), ([qF 0, qF 3], qF 3), ([qF 1, qN 1], qF 0), ([qF 1, qF 1], qF 2), ([qF 1, qF 3], qF 4), ([qF 2, qN 1], qF 1), ([qF 2, qF 0], qF 2), ([qF 2, qF 1], qF 3), ([qF 3, qN 1], qF 2), ([qF 3, qF 1], qF 4), ([qF 4, qF 1], qF 5), ([qF 5, qN 1], qF 4)]
theorem knowh26_ok : MemoOK Tryz.prog 26 knowh26 := by
  refine ⟨hb26, fun p hp H => ?_⟩
  simp only [knowh26, List.mem_cons, List.not_mem_nil, or_false] at hp
  rcases hp with rfl | rfl | rfl | rfl | rfl | rfl | rfl | rfl | rfl | rfl | rfl | rfl | rfl | rfl | rfl
  · exact runsTo_FN hmixh tbh_ok h16 H
  · exact runsTo_FN hmixh tbh_ok h17 H
  · exact runsTo_FN hmixh tbh_ok h18 H
  · exact runsTo_FN hmixh tbh_ok h19 H
  · exact runsTo_FN hmixh tbh_ok h20 H
  · exact runsTo_FN hmixh tbh_ok h21 H
  · exact runsTo_FN hmixh tbh_ok h22 H
  · exact runsTo_FN hmixh tbh_ok h23 H
  · exact runsTo_FN hmixh tbh_ok h24 H
  · exact runsTo_FN hmixh tbh_ok h25 H
  · exact runsTo_FN hmixh tbh_ok h26 H
  · exact runsTo_FN hmixh tbh_ok h27 H
  · exact runsTo_FN hmixh tbh_ok h28 H
  · exact runsTo_FN hmixh tbh_ok h29 H
  · exact runsTo_FN hmixh tbh_ok h30 H
def knowh33 : List (List V × V) := [([qF 1, qF 4], .tup [.agg [.lit (.bool false), qD 1, qD 4], .lit (.bool true)])]
theorem knowh33_ok : MemoOK Tryz.prog 33 knowh33 := by
  refine ⟨hb33, fun p hp H => ?_⟩
  simp only [knowh33, List.mem_cons, List.not_mem_nil, or_false] at hp
  rcases hp with rfl
  · exact runsTo_FN hmixh tbh_ok h31 H
noncomputable def tbk : Tb := ⟨tab14, (.node (.node .nil none (.node (.node (.node (.node .nil (some knowh33) .nil) none .nil) none .nil) none (.node (.node .nil (some knowh21) .nil) none .nil))) none (.node (.node (.node .nil none (.node .nil (some knowh24) .nil)) none .nil) none (.node (.node .nil none (.node .nil (some knowh26) .nil)) none (.node (.node .nil (some knowh22) .nil) none .nil))))⟩
theorem tbk_ok : TabOK Tryz.prog tbk := tabOK tab14_ok ⟨⟨trivial, (fun _ h => by cases h), ⟨⟨⟨⟨trivial, (fun _ h => Option.some.inj h ▸ knowh33_ok), trivial⟩, (fun _ h => by cases h), trivial⟩, (fun _ h => by cases h), trivial⟩, (fun _ h => by cases h), ⟨⟨trivial, (fun _ h => Option.some.inj h ▸ knowh21_ok), trivial⟩, (fun _ h => by cases h), trivial⟩⟩⟩, (fun _ h => by cases h), ⟨⟨⟨trivial, (fun _ h => by cases h), ⟨trivial, (fun _ h => Option.some.inj h ▸ knowh24_ok), trivial⟩⟩, (fun _ h => by cases h), trivial⟩, (fun _ h => by cases h), ⟨⟨trivial, (fun _ h => by cases h), ⟨trivial, (fun _ h => Option.some.inj h ▸ knowh26_ok), trivial⟩⟩, (fun _ h => by cases h), ⟨⟨trivial, (fun _ h => Option.some.inj h ▸ knowh22_ok), trivial⟩, (fun _ h => by cases h), trivial⟩⟩⟩⟩
theorem fit14_runs : runsTo tbk Tryz.prog 4000 25 [] (.lit (.bool true)) = true := by kernel_rfl
/-- The anchor answers true. -/
theorem fn_fit14 (H : AH) : FN Tryz.prog 25 [] H (.lit (.bool true)) H := runsTo_FN hmixh tbk_ok fit14_runs H
end Iso
