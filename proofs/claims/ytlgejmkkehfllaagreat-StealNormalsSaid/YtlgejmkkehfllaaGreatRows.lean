/-
  No cell of these rows narrows 'for every input' (looked for: loops, veiled, ifaces, maps, wideKeys, modest, calm, conditions, laid).
  DERIVED. THE GIVEN ROWS OF THIS SEAT. 9 by the template 'for every input the law returns true; each argument reads behind the call as it read before'; 0 by the template 'total and deterministic' (their statements: YtlgejmkkehfllaaGreatTotals.lean).
  GIVEN WITH THE SEED: the statements are not yours to turn. If you find one false, say at which input.
  Laid BY PROGRAM, IN A SANDBOX (cutbox-rows.mjs): the forced cells as the released guide's own fill.sh prints them over the translation 240d3be5dd3a3ad7… (all of the seat's roots in one cut). By AI agents, Wed Nov 11 2026. No macro, syntax, notation, axiom, sorry.
-/
import Derived.Test.YtlgejmkkehfllaaGreatChecked
import GoSem.Claim
import GoSem.ClaimJoined
import GoSem.ClaimMapViews
import Derived.JoinedTies
import Derived.KernelRfl
namespace Go.Proofs.YtlgejmkkehfllaaGreat
/- THE CELL 'sum', in the pinned program and in every row, IS THE sha256 OF THE DUMP (.gsa) THAT YtlgejmkkehfllaaGreatProg.lean LOADS. Nothing in Lean hashes anything: it is a label: what it is worth is what the hold of that sum in a sandbox is worth. -/
noncomputable def Tryz.pinned : Pinned := { name := "ytlgejmkkehfllaagreat", sum := "240d3be5dd3a3ad7e57dbfbaeab584c10c8956398abb96f54ad5259ffffaa7e1", checked := Tryz.checked }
namespace Rows
def none {H : Type} : Left H := { results := [], args := [] }

/-- 'isohyetlaw15.LaceRatios': WHATEVER THE INPUT: true; the input reads as it did. -/
def laceRatiosSpec : ChangeSpec := { name := "laceRatios", fn := fun _ => fun
  | [d1, d2, d3] => { results := [.lit (.bool true)], args := [d1, d2, d3] }
  | _ => none }
def laceRatiosRow : OpenClaim := { program := "ytlgejmkkehfllaagreat", sum := "240d3be5dd3a3ad7e57dbfbaeab584c10c8956398abb96f54ad5259ffffaa7e1", func := "isohyet/isohyetlaw15.LaceRatios", spec := "laceRatios", inPlace := ["math/bits.Add64", "math/bits.Sub64"], unfollowed := true, recurses := true, named := ["math/bits.divideError", "math/bits.overflowError"], plainKeys := false, apart := false }
def LaceRatiosSaid : Prop := laceRatiosRow.holds Tryz.pinned (OpenSpec.ofChange laceRatiosSpec)

/-- ITS FALSE NEIGHBOUR: 'it returns false'. Refute it at one input. -/
def laceRatiosWrong : ChangeSpec := { name := "laceRatios", fn := fun _ => fun
  | [d1, d2, d3] => { results := [.lit (.bool false)], args := [d1, d2, d3] }
  | _ => none }
def LaceRatiosWrongFalsely : Prop := laceRatiosRow.holds Tryz.pinned (OpenSpec.ofChange laceRatiosWrong)

/-- 'isohyetlaw15.LaceTells': WHATEVER THE INPUT: true; the input reads as it did. -/
def laceTellsSpec : ChangeSpec := { name := "laceTells", fn := fun _ => fun
  | [d1, d2, d3] => { results := [.lit (.bool true)], args := [d1, d2, d3] }
  | _ => none }
def laceTellsRow : OpenClaim := { program := "ytlgejmkkehfllaagreat", sum := "240d3be5dd3a3ad7e57dbfbaeab584c10c8956398abb96f54ad5259ffffaa7e1", func := "isohyet/isohyetlaw15.LaceTells", spec := "laceTells", inPlace := ["math/bits.Add64", "math/bits.Sub64"], unfollowed := true, recurses := true, named := ["math/bits.divideError", "math/bits.overflowError"], plainKeys := false, apart := false }
def LaceTellsSaid : Prop := laceTellsRow.holds Tryz.pinned (OpenSpec.ofChange laceTellsSpec)

/-- ITS FALSE NEIGHBOUR: 'it returns false'. Refute it at one input. -/
def laceTellsWrong : ChangeSpec := { name := "laceTells", fn := fun _ => fun
  | [d1, d2, d3] => { results := [.lit (.bool false)], args := [d1, d2, d3] }
  | _ => none }
def LaceTellsWrongFalsely : Prop := laceTellsRow.holds Tryz.pinned (OpenSpec.ofChange laceTellsWrong)

/-- 'isohyetlaw14.StealNormals': WHATEVER THE INPUT: true; the input reads as it did. -/
def stealNormalsSpec : ChangeSpec := { name := "stealNormals", fn := fun _ => fun
  | [d] => { results := [.lit (.bool true)], args := [d] }
  | _ => none }
def stealNormalsRow : OpenClaim := { program := "ytlgejmkkehfllaagreat", sum := "240d3be5dd3a3ad7e57dbfbaeab584c10c8956398abb96f54ad5259ffffaa7e1", func := "isohyet/isohyetlaw14.StealNormals", spec := "stealNormals", inPlace := ["math/bits.Add64", "math/bits.Sub64"], unfollowed := true, recurses := true, named := ["math/bits.divideError", "math/bits.overflowError"], plainKeys := false, apart := false }
def StealNormalsSaid : Prop := stealNormalsRow.holds Tryz.pinned (OpenSpec.ofChange stealNormalsSpec)

/-- ITS FALSE NEIGHBOUR: 'it returns false'. Refute it at one input. -/
def stealNormalsWrong : ChangeSpec := { name := "stealNormals", fn := fun _ => fun
  | [d] => { results := [.lit (.bool false)], args := [d] }
  | _ => none }
def StealNormalsWrongFalsely : Prop := stealNormalsRow.holds Tryz.pinned (OpenSpec.ofChange stealNormalsWrong)

/-- 'isohyetlaw15.LaceBorders': WHATEVER THE INPUT: true; the input reads as it did. -/
def laceBordersSpec : ChangeSpec := { name := "laceBorders", fn := fun _ => fun
  | [d1, d2] => { results := [.lit (.bool true)], args := [d1, d2] }
  | _ => none }
def laceBordersRow : OpenClaim := { program := "ytlgejmkkehfllaagreat", sum := "240d3be5dd3a3ad7e57dbfbaeab584c10c8956398abb96f54ad5259ffffaa7e1", func := "isohyet/isohyetlaw15.LaceBorders", spec := "laceBorders", inPlace := ["math/bits.Add64", "math/bits.Sub64"], unfollowed := true, recurses := true, named := ["math/bits.divideError", "math/bits.overflowError"], plainKeys := false, apart := false }
def LaceBordersSaid : Prop := laceBordersRow.holds Tryz.pinned (OpenSpec.ofChange laceBordersSpec)

/-- ITS FALSE NEIGHBOUR: 'it returns false'. Refute it at one input. -/
def laceBordersWrong : ChangeSpec := { name := "laceBorders", fn := fun _ => fun
  | [d1, d2] => { results := [.lit (.bool false)], args := [d1, d2] }
  | _ => none }
def LaceBordersWrongFalsely : Prop := laceBordersRow.holds Tryz.pinned (OpenSpec.ofChange laceBordersWrong)

/-- 'isohyetlaw15.LaceComes': WHATEVER THE INPUT: true; the input reads as it did. -/
def laceComesSpec : ChangeSpec := { name := "laceComes", fn := fun _ => fun
  | [d1, d2, d3] => { results := [.lit (.bool true)], args := [d1, d2, d3] }
  | _ => none }
def laceComesRow : OpenClaim := { program := "ytlgejmkkehfllaagreat", sum := "240d3be5dd3a3ad7e57dbfbaeab584c10c8956398abb96f54ad5259ffffaa7e1", func := "isohyet/isohyetlaw15.LaceComes", spec := "laceComes", inPlace := ["math/bits.Add64", "math/bits.Sub64"], unfollowed := true, recurses := true, named := ["math/bits.divideError", "math/bits.overflowError"], plainKeys := false, apart := false }
def LaceComesSaid : Prop := laceComesRow.holds Tryz.pinned (OpenSpec.ofChange laceComesSpec)

/-- ITS FALSE NEIGHBOUR: 'it returns false'. Refute it at one input. -/
def laceComesWrong : ChangeSpec := { name := "laceComes", fn := fun _ => fun
  | [d1, d2, d3] => { results := [.lit (.bool false)], args := [d1, d2, d3] }
  | _ => none }
def LaceComesWrongFalsely : Prop := laceComesRow.holds Tryz.pinned (OpenSpec.ofChange laceComesWrong)

/-- 'isohyetlaw14.StealComes': WHATEVER THE INPUT: true; the input reads as it did. -/
def stealComesSpec : ChangeSpec := { name := "stealComes", fn := fun _ => fun
  | [d1, d2, d3] => { results := [.lit (.bool true)], args := [d1, d2, d3] }
  | _ => none }
def stealComesRow : OpenClaim := { program := "ytlgejmkkehfllaagreat", sum := "240d3be5dd3a3ad7e57dbfbaeab584c10c8956398abb96f54ad5259ffffaa7e1", func := "isohyet/isohyetlaw14.StealComes", spec := "stealComes", inPlace := ["math/bits.Add64", "math/bits.Sub64"], unfollowed := true, recurses := true, named := ["math/bits.divideError", "math/bits.overflowError"], plainKeys := false, apart := false }
def StealComesSaid : Prop := stealComesRow.holds Tryz.pinned (OpenSpec.ofChange stealComesSpec)

/-- ITS FALSE NEIGHBOUR: 'it returns false'. Refute it at one input. -/
def stealComesWrong : ChangeSpec := { name := "stealComes", fn := fun _ => fun
  | [d1, d2, d3] => { results := [.lit (.bool false)], args := [d1, d2, d3] }
  | _ => none }
def StealComesWrongFalsely : Prop := stealComesRow.holds Tryz.pinned (OpenSpec.ofChange stealComesWrong)

/-- 'isohyetlaw14.StealGrows': WHATEVER THE INPUT: true; the input reads as it did. -/
def stealGrowsSpec : ChangeSpec := { name := "stealGrows", fn := fun _ => fun
  | [d1, d2, d3] => { results := [.lit (.bool true)], args := [d1, d2, d3] }
  | _ => none }
def stealGrowsRow : OpenClaim := { program := "ytlgejmkkehfllaagreat", sum := "240d3be5dd3a3ad7e57dbfbaeab584c10c8956398abb96f54ad5259ffffaa7e1", func := "isohyet/isohyetlaw14.StealGrows", spec := "stealGrows", inPlace := ["math/bits.Add64", "math/bits.Sub64"], unfollowed := true, recurses := true, named := ["math/bits.divideError", "math/bits.overflowError"], plainKeys := false, apart := false }
def StealGrowsSaid : Prop := stealGrowsRow.holds Tryz.pinned (OpenSpec.ofChange stealGrowsSpec)

/-- ITS FALSE NEIGHBOUR: 'it returns false'. Refute it at one input. -/
def stealGrowsWrong : ChangeSpec := { name := "stealGrows", fn := fun _ => fun
  | [d1, d2, d3] => { results := [.lit (.bool false)], args := [d1, d2, d3] }
  | _ => none }
def StealGrowsWrongFalsely : Prop := stealGrowsRow.holds Tryz.pinned (OpenSpec.ofChange stealGrowsWrong)

/-- 'isohyetlaw14.StealCorners': WHATEVER THE INPUT: true; the input reads as it did. -/
def stealCornersSpec : ChangeSpec := { name := "stealCorners", fn := fun _ => fun
  | [d1, d2, d3] => { results := [.lit (.bool true)], args := [d1, d2, d3] }
  | _ => none }
def stealCornersRow : OpenClaim := { program := "ytlgejmkkehfllaagreat", sum := "240d3be5dd3a3ad7e57dbfbaeab584c10c8956398abb96f54ad5259ffffaa7e1", func := "isohyet/isohyetlaw14.StealCorners", spec := "stealCorners", inPlace := ["math/bits.Add64", "math/bits.Sub64"], unfollowed := true, recurses := true, named := ["math/bits.divideError", "math/bits.overflowError"], plainKeys := false, apart := false }
def StealCornersSaid : Prop := stealCornersRow.holds Tryz.pinned (OpenSpec.ofChange stealCornersSpec)

/-- ITS FALSE NEIGHBOUR: 'it returns false'. Refute it at one input. -/
def stealCornersWrong : ChangeSpec := { name := "stealCorners", fn := fun _ => fun
  | [d1, d2, d3] => { results := [.lit (.bool false)], args := [d1, d2, d3] }
  | _ => none }
def StealCornersWrongFalsely : Prop := stealCornersRow.holds Tryz.pinned (OpenSpec.ofChange stealCornersWrong)

/-- 'isohyetlaw14.StealCells': WHATEVER THE INPUT: true; the input reads as it did. -/
def stealCellsSpec : ChangeSpec := { name := "stealCells", fn := fun _ => fun
  | [d1, d2] => { results := [.lit (.bool true)], args := [d1, d2] }
  | _ => none }
def stealCellsRow : OpenClaim := { program := "ytlgejmkkehfllaagreat", sum := "240d3be5dd3a3ad7e57dbfbaeab584c10c8956398abb96f54ad5259ffffaa7e1", func := "isohyet/isohyetlaw14.StealCells", spec := "stealCells", inPlace := ["math/bits.Add64", "math/bits.Sub64"], unfollowed := true, recurses := true, named := ["math/bits.divideError", "math/bits.overflowError"], plainKeys := false, apart := false }
def StealCellsSaid : Prop := stealCellsRow.holds Tryz.pinned (OpenSpec.ofChange stealCellsSpec)

/-- ITS FALSE NEIGHBOUR: 'it returns false'. Refute it at one input. -/
def stealCellsWrong : ChangeSpec := { name := "stealCells", fn := fun _ => fun
  | [d1, d2] => { results := [.lit (.bool false)], args := [d1, d2] }
  | _ => none }
def StealCellsWrongFalsely : Prop := stealCellsRow.holds Tryz.pinned (OpenSpec.ofChange stealCellsWrong)

/- THE SECOND FORM. 'bulk': how many values and letters a reading holds, each counted each time it is reached (what is shared counts as often as it is met; a slice's spare places count too). A statement '..UptoSaid' is the law's where the arguments, and the package variables that the reading takes, are together of bulk at most 1048576: NARROWER than '..Said'. Prove '..Said' where nothing that the law and all that it calls make is longer than what came in: it says more and counts as full. Else prove '..UptoSaid'. A law counts once. -/
mutual
def uptoBulk {H : Type} : DataW H → Nat
  | .lit (.string bytes) => bytes.length + 1
  | .lit _ => 1
  | .nil => 1
  | .ptr d => uptoBulk d + 1
  | .slice elems spare => uptoBulkAll elems + uptoBulkAll spare + 1
  | .agg parts => uptoBulkAll parts + 1
  | .iface _ d => uptoBulk d + 1
  | .map entries => uptoBulkEntries entries + 1
  | .held _ => 1
def uptoBulkAll {H : Type} : List (DataW H) → Nat
  | [] => 0
  | d :: r => uptoBulk d + uptoBulkAll r
def uptoBulkEntries {H : Type} : List (Lit × DataW H) → Nat
  | [] => 0
  | x :: r => uptoBulkEntry x + uptoBulkEntries r
def uptoBulkEntry {H : Type} : Lit × DataW H → Nat
  | (.string bytes, d) => bytes.length + uptoBulk d + 1
  | (_, d) => uptoBulk d + 1
 end
def uptoSmall : (H : Type) → List (DataW H) → Bool := fun _ ds => decide (uptoBulkAll ds ≤ 1048576)
def OpenSpec.upto (s : _root_.Go.ChangeSpec) : _root_.Go.OpenSpec := { _root_.Go.OpenSpec.ofChange s with cond := some uptoSmall }

/-- 'isohyetlaw15.LaceRatios', WHERE WHAT IT READS IS OF BULK AT MOST 1048576: true; the input reads as it did. -/
def laceRatiosUptoRow : OpenClaim := { program := "ytlgejmkkehfllaagreat", sum := "240d3be5dd3a3ad7e57dbfbaeab584c10c8956398abb96f54ad5259ffffaa7e1", func := "isohyet/isohyetlaw15.LaceRatios", spec := "laceRatios", inPlace := ["math/bits.Add64", "math/bits.Sub64"], unfollowed := true, recurses := true, named := ["math/bits.divideError", "math/bits.overflowError"], plainKeys := false, apart := false, narrowed := true }
def LaceRatiosUptoSaid : Prop := laceRatiosUptoRow.holds Tryz.pinned (OpenSpec.upto laceRatiosSpec)

/-- 'isohyetlaw15.LaceTells', WHERE WHAT IT READS IS OF BULK AT MOST 1048576: true; the input reads as it did. -/
def laceTellsUptoRow : OpenClaim := { program := "ytlgejmkkehfllaagreat", sum := "240d3be5dd3a3ad7e57dbfbaeab584c10c8956398abb96f54ad5259ffffaa7e1", func := "isohyet/isohyetlaw15.LaceTells", spec := "laceTells", inPlace := ["math/bits.Add64", "math/bits.Sub64"], unfollowed := true, recurses := true, named := ["math/bits.divideError", "math/bits.overflowError"], plainKeys := false, apart := false, narrowed := true }
def LaceTellsUptoSaid : Prop := laceTellsUptoRow.holds Tryz.pinned (OpenSpec.upto laceTellsSpec)

/-- 'isohyetlaw14.StealNormals', WHERE WHAT IT READS IS OF BULK AT MOST 1048576: true; the input reads as it did. -/
def stealNormalsUptoRow : OpenClaim := { program := "ytlgejmkkehfllaagreat", sum := "240d3be5dd3a3ad7e57dbfbaeab584c10c8956398abb96f54ad5259ffffaa7e1", func := "isohyet/isohyetlaw14.StealNormals", spec := "stealNormals", inPlace := ["math/bits.Add64", "math/bits.Sub64"], unfollowed := true, recurses := true, named := ["math/bits.divideError", "math/bits.overflowError"], plainKeys := false, apart := false, narrowed := true }
def StealNormalsUptoSaid : Prop := stealNormalsUptoRow.holds Tryz.pinned (OpenSpec.upto stealNormalsSpec)

/-- 'isohyetlaw15.LaceBorders', WHERE WHAT IT READS IS OF BULK AT MOST 1048576: true; the input reads as it did. -/
def laceBordersUptoRow : OpenClaim := { program := "ytlgejmkkehfllaagreat", sum := "240d3be5dd3a3ad7e57dbfbaeab584c10c8956398abb96f54ad5259ffffaa7e1", func := "isohyet/isohyetlaw15.LaceBorders", spec := "laceBorders", inPlace := ["math/bits.Add64", "math/bits.Sub64"], unfollowed := true, recurses := true, named := ["math/bits.divideError", "math/bits.overflowError"], plainKeys := false, apart := false, narrowed := true }
def LaceBordersUptoSaid : Prop := laceBordersUptoRow.holds Tryz.pinned (OpenSpec.upto laceBordersSpec)

/-- 'isohyetlaw15.LaceComes', WHERE WHAT IT READS IS OF BULK AT MOST 1048576: true; the input reads as it did. -/
def laceComesUptoRow : OpenClaim := { program := "ytlgejmkkehfllaagreat", sum := "240d3be5dd3a3ad7e57dbfbaeab584c10c8956398abb96f54ad5259ffffaa7e1", func := "isohyet/isohyetlaw15.LaceComes", spec := "laceComes", inPlace := ["math/bits.Add64", "math/bits.Sub64"], unfollowed := true, recurses := true, named := ["math/bits.divideError", "math/bits.overflowError"], plainKeys := false, apart := false, narrowed := true }
def LaceComesUptoSaid : Prop := laceComesUptoRow.holds Tryz.pinned (OpenSpec.upto laceComesSpec)

/-- 'isohyetlaw14.StealComes', WHERE WHAT IT READS IS OF BULK AT MOST 1048576: true; the input reads as it did. -/
def stealComesUptoRow : OpenClaim := { program := "ytlgejmkkehfllaagreat", sum := "240d3be5dd3a3ad7e57dbfbaeab584c10c8956398abb96f54ad5259ffffaa7e1", func := "isohyet/isohyetlaw14.StealComes", spec := "stealComes", inPlace := ["math/bits.Add64", "math/bits.Sub64"], unfollowed := true, recurses := true, named := ["math/bits.divideError", "math/bits.overflowError"], plainKeys := false, apart := false, narrowed := true }
def StealComesUptoSaid : Prop := stealComesUptoRow.holds Tryz.pinned (OpenSpec.upto stealComesSpec)

/-- 'isohyetlaw14.StealGrows', WHERE WHAT IT READS IS OF BULK AT MOST 1048576: true; the input reads as it did. -/
def stealGrowsUptoRow : OpenClaim := { program := "ytlgejmkkehfllaagreat", sum := "240d3be5dd3a3ad7e57dbfbaeab584c10c8956398abb96f54ad5259ffffaa7e1", func := "isohyet/isohyetlaw14.StealGrows", spec := "stealGrows", inPlace := ["math/bits.Add64", "math/bits.Sub64"], unfollowed := true, recurses := true, named := ["math/bits.divideError", "math/bits.overflowError"], plainKeys := false, apart := false, narrowed := true }
def StealGrowsUptoSaid : Prop := stealGrowsUptoRow.holds Tryz.pinned (OpenSpec.upto stealGrowsSpec)

/-- 'isohyetlaw14.StealCorners', WHERE WHAT IT READS IS OF BULK AT MOST 1048576: true; the input reads as it did. -/
def stealCornersUptoRow : OpenClaim := { program := "ytlgejmkkehfllaagreat", sum := "240d3be5dd3a3ad7e57dbfbaeab584c10c8956398abb96f54ad5259ffffaa7e1", func := "isohyet/isohyetlaw14.StealCorners", spec := "stealCorners", inPlace := ["math/bits.Add64", "math/bits.Sub64"], unfollowed := true, recurses := true, named := ["math/bits.divideError", "math/bits.overflowError"], plainKeys := false, apart := false, narrowed := true }
def StealCornersUptoSaid : Prop := stealCornersUptoRow.holds Tryz.pinned (OpenSpec.upto stealCornersSpec)

/-- 'isohyetlaw14.StealCells', WHERE WHAT IT READS IS OF BULK AT MOST 1048576: true; the input reads as it did. -/
def stealCellsUptoRow : OpenClaim := { program := "ytlgejmkkehfllaagreat", sum := "240d3be5dd3a3ad7e57dbfbaeab584c10c8956398abb96f54ad5259ffffaa7e1", func := "isohyet/isohyetlaw14.StealCells", spec := "stealCells", inPlace := ["math/bits.Add64", "math/bits.Sub64"], unfollowed := true, recurses := true, named := ["math/bits.divideError", "math/bits.overflowError"], plainKeys := false, apart := false, narrowed := true }
def StealCellsUptoSaid : Prop := stealCellsUptoRow.holds Tryz.pinned (OpenSpec.upto stealCellsSpec)

end Rows
end Go.Proofs.YtlgejmkkehfllaaGreat
