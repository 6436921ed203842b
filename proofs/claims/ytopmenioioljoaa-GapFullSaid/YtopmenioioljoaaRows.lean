/-
  No cell of these rows narrows 'for every input' (looked for: loops, veiled, ifaces, maps, wideKeys, modest, calm, conditions, laid).
  DERIVED. THE GIVEN ROWS OF THIS SEAT. 8 by the template 'for every input the law returns true; each argument reads behind the call as it read before'; 0 by the template 'total and deterministic' (their statements: YtopmenioioljoaaTotals.lean).
  GIVEN WITH THE SEED: the statements are not yours to turn. If you find one false, say at which input.
  Laid BY PROGRAM, IN A SANDBOX (cutbox-rows.mjs): the forced cells as the released guide's own fill.sh prints them over the translation 54a1c8521ddb57d9… (all of the seat's roots in one cut). By AI agents, Wed Nov 11 2026. No macro, syntax, notation, axiom, sorry.
-/
import Derived.Test.YtopmenioioljoaaChecked
import GoSem.Claim
import GoSem.ClaimJoined
import GoSem.ClaimMapViews
import Derived.JoinedTies
import Derived.KernelRfl
namespace Go.Proofs.Ytopmenioioljoaa
/- THE CELL 'sum', in the pinned program and in every row, IS THE sha256 OF THE DUMP (.gsa) THAT YtopmenioioljoaaProg.lean LOADS. Nothing in Lean hashes anything: it is a label: what it is worth is what the hold of that sum in a sandbox is worth. -/
noncomputable def Try.pinned : Pinned := { name := "ytopmenioioljoaa", sum := "54a1c8521ddb57d96ca65f124c6d06a009e6b16b48eb70206ec7aa57270ff289", checked := Try.checked }
namespace Rows
def none {H : Type} : Left H := { results := [], args := [] }

/-- 'dactyllaw01.NumDecs': WHATEVER THE INPUT: true; the input reads as it did. -/
def numDecsSpec : ChangeSpec := { name := "numDecs", fn := fun _ => fun
  | [d1, d2] => { results := [.lit (.bool true)], args := [d1, d2] }
  | _ => none }
def numDecsRow : OpenClaim := { program := "ytopmenioioljoaa", sum := "54a1c8521ddb57d96ca65f124c6d06a009e6b16b48eb70206ec7aa57270ff289", func := "dactyl/dactyllaw01.NumDecs", spec := "numDecs", inPlace := ["internal/bytealg.IndexByteString"], unfollowed := true, recurses := true, apart := false }
def NumDecsSaid : Prop := numDecsRow.holds Try.pinned (OpenSpec.ofChange numDecsSpec)

/-- ITS FALSE NEIGHBOUR: 'it returns false'. Refute it at one input. -/
def numDecsWrong : ChangeSpec := { name := "numDecs", fn := fun _ => fun
  | [d1, d2] => { results := [.lit (.bool false)], args := [d1, d2] }
  | _ => none }
def NumDecsWrongFalsely : Prop := numDecsRow.holds Try.pinned (OpenSpec.ofChange numDecsWrong)

/-- 'dactyllaw01.NumHexes': WHATEVER THE INPUT: true; the input reads as it did. -/
def numHexesSpec : ChangeSpec := { name := "numHexes", fn := fun _ => fun
  | [d1, d2, d3] => { results := [.lit (.bool true)], args := [d1, d2, d3] }
  | _ => none }
def numHexesRow : OpenClaim := { program := "ytopmenioioljoaa", sum := "54a1c8521ddb57d96ca65f124c6d06a009e6b16b48eb70206ec7aa57270ff289", func := "dactyl/dactyllaw01.NumHexes", spec := "numHexes", inPlace := ["internal/bytealg.IndexByteString"], unfollowed := true, recurses := true, apart := false }
def NumHexesSaid : Prop := numHexesRow.holds Try.pinned (OpenSpec.ofChange numHexesSpec)

/-- ITS FALSE NEIGHBOUR: 'it returns false'. Refute it at one input. -/
def numHexesWrong : ChangeSpec := { name := "numHexes", fn := fun _ => fun
  | [d1, d2, d3] => { results := [.lit (.bool false)], args := [d1, d2, d3] }
  | _ => none }
def NumHexesWrongFalsely : Prop := numHexesRow.holds Try.pinned (OpenSpec.ofChange numHexesWrong)

/-- 'dactyllaw29.CountDoes': WHATEVER THE INPUT: true; the input reads as it did. -/
def countDoesSpec : ChangeSpec := { name := "countDoes", fn := fun _ => fun
  | [d1, d2] => { results := [.lit (.bool true)], args := [d1, d2] }
  | _ => none }
def countDoesRow : OpenClaim := { program := "ytopmenioioljoaa", sum := "54a1c8521ddb57d96ca65f124c6d06a009e6b16b48eb70206ec7aa57270ff289", func := "dactyl/dactyllaw29.CountDoes", spec := "countDoes", unfollowed := true, recurses := true, apart := false }
def CountDoesSaid : Prop := countDoesRow.holds Try.pinned (OpenSpec.ofChange countDoesSpec)

/-- ITS FALSE NEIGHBOUR: 'it returns false'. Refute it at one input. -/
def countDoesWrong : ChangeSpec := { name := "countDoes", fn := fun _ => fun
  | [d1, d2] => { results := [.lit (.bool false)], args := [d1, d2] }
  | _ => none }
def CountDoesWrongFalsely : Prop := countDoesRow.holds Try.pinned (OpenSpec.ofChange countDoesWrong)

/-- 'dactyllaw29.CountTells': WHATEVER THE INPUT: true; the input reads as it did. -/
def countTellsSpec : ChangeSpec := { name := "countTells", fn := fun _ => fun
  | [d] => { results := [.lit (.bool true)], args := [d] }
  | _ => none }
def countTellsRow : OpenClaim := { program := "ytopmenioioljoaa", sum := "54a1c8521ddb57d96ca65f124c6d06a009e6b16b48eb70206ec7aa57270ff289", func := "dactyl/dactyllaw29.CountTells", spec := "countTells", unfollowed := true, recurses := true, apart := false }
def CountTellsSaid : Prop := countTellsRow.holds Try.pinned (OpenSpec.ofChange countTellsSpec)

/-- ITS FALSE NEIGHBOUR: 'it returns false'. Refute it at one input. -/
def countTellsWrong : ChangeSpec := { name := "countTells", fn := fun _ => fun
  | [d] => { results := [.lit (.bool false)], args := [d] }
  | _ => none }
def CountTellsWrongFalsely : Prop := countTellsRow.holds Try.pinned (OpenSpec.ofChange countTellsWrong)

/-- 'dactyllaw42.MacroDoes': WHATEVER THE INPUT: true; the input reads as it did. -/
def macroDoesSpec : ChangeSpec := { name := "macroDoes", fn := fun _ => fun
  | [d1, d2] => { results := [.lit (.bool true)], args := [d1, d2] }
  | _ => none }
def macroDoesRow : OpenClaim := { program := "ytopmenioioljoaa", sum := "54a1c8521ddb57d96ca65f124c6d06a009e6b16b48eb70206ec7aa57270ff289", func := "dactyl/dactyllaw42.MacroDoes", spec := "macroDoes", unfollowed := true, recurses := true, apart := false }
def MacroDoesSaid : Prop := macroDoesRow.holds Try.pinned (OpenSpec.ofChange macroDoesSpec)

/-- ITS FALSE NEIGHBOUR: 'it returns false'. Refute it at one input. -/
def macroDoesWrong : ChangeSpec := { name := "macroDoes", fn := fun _ => fun
  | [d1, d2] => { results := [.lit (.bool false)], args := [d1, d2] }
  | _ => none }
def MacroDoesWrongFalsely : Prop := macroDoesRow.holds Try.pinned (OpenSpec.ofChange macroDoesWrong)

/-- 'dactyllaw16.GapDoes': WHATEVER THE INPUT: true; the input reads as it did. -/
def gapDoesSpec : ChangeSpec := { name := "gapDoes", fn := fun _ => fun
  | [d1, d2] => { results := [.lit (.bool true)], args := [d1, d2] }
  | _ => none }
def gapDoesRow : OpenClaim := { program := "ytopmenioioljoaa", sum := "54a1c8521ddb57d96ca65f124c6d06a009e6b16b48eb70206ec7aa57270ff289", func := "dactyl/dactyllaw16.GapDoes", spec := "gapDoes", unfollowed := true, recurses := true, apart := false }
def GapDoesSaid : Prop := gapDoesRow.holds Try.pinned (OpenSpec.ofChange gapDoesSpec)

/-- ITS FALSE NEIGHBOUR: 'it returns false'. Refute it at one input. -/
def gapDoesWrong : ChangeSpec := { name := "gapDoes", fn := fun _ => fun
  | [d1, d2] => { results := [.lit (.bool false)], args := [d1, d2] }
  | _ => none }
def GapDoesWrongFalsely : Prop := gapDoesRow.holds Try.pinned (OpenSpec.ofChange gapDoesWrong)

/-- 'dactyllaw16.GapNone': WHATEVER THE INPUT: true; the input reads as it did. -/
def gapNoneSpec : ChangeSpec := { name := "gapNone", fn := fun _ => fun
  | [d1, d2] => { results := [.lit (.bool true)], args := [d1, d2] }
  | _ => none }
def gapNoneRow : OpenClaim := { program := "ytopmenioioljoaa", sum := "54a1c8521ddb57d96ca65f124c6d06a009e6b16b48eb70206ec7aa57270ff289", func := "dactyl/dactyllaw16.GapNone", spec := "gapNone", unfollowed := true, recurses := true, apart := false }
def GapNoneSaid : Prop := gapNoneRow.holds Try.pinned (OpenSpec.ofChange gapNoneSpec)

/-- ITS FALSE NEIGHBOUR: 'it returns false'. Refute it at one input. -/
def gapNoneWrong : ChangeSpec := { name := "gapNone", fn := fun _ => fun
  | [d1, d2] => { results := [.lit (.bool false)], args := [d1, d2] }
  | _ => none }
def GapNoneWrongFalsely : Prop := gapNoneRow.holds Try.pinned (OpenSpec.ofChange gapNoneWrong)

/-- 'dactyllaw16.GapFull': WHATEVER THE INPUT: true; the input reads as it did. -/
def gapFullSpec : ChangeSpec := { name := "gapFull", fn := fun _ => fun
  | [d1, d2] => { results := [.lit (.bool true)], args := [d1, d2] }
  | _ => none }
def gapFullRow : OpenClaim := { program := "ytopmenioioljoaa", sum := "54a1c8521ddb57d96ca65f124c6d06a009e6b16b48eb70206ec7aa57270ff289", func := "dactyl/dactyllaw16.GapFull", spec := "gapFull", unfollowed := true, recurses := true, apart := false }
def GapFullSaid : Prop := gapFullRow.holds Try.pinned (OpenSpec.ofChange gapFullSpec)

/-- ITS FALSE NEIGHBOUR: 'it returns false'. Refute it at one input. -/
def gapFullWrong : ChangeSpec := { name := "gapFull", fn := fun _ => fun
  | [d1, d2] => { results := [.lit (.bool false)], args := [d1, d2] }
  | _ => none }
def GapFullWrongFalsely : Prop := gapFullRow.holds Try.pinned (OpenSpec.ofChange gapFullWrong)

/- THE SECOND FORM. 'bulk': how many values and letters a reading holds, each counted each time it is reached (what is shared counts as often as it is met; a slice's spare places count too). A statement '..UptoSaid' is the law's where the arguments, and the package variables that the reading takes, are together of bulk at most 1048576: NARROWER than '..Said'. Prove '..Said' where nothing that the law and all that it calls make is longer than what came in: it says more and counts as full. Else prove '..UptoSaid'. A law counts once. -/
mutual
def uptoBulk {H : Type} : DataW H → Nat
  | .lit (.string bytes) => bytes.length + 1
  | .lit _ => 1
  | .nil => 1
  | .ptr d => uptoBulk d + 1
  | .slice elems spare => uptoBulkAll elems + uptoBulkAll spare + 1
  | .agg parts => uptoBulkAll parts + 1
  | .iface _ d => uptoBulk d + 1
  | .map entries => uptoBulkEntries entries + 1
  | .held _ => 1
def uptoBulkAll {H : Type} : List (DataW H) → Nat
  | [] => 0
  | d :: r => uptoBulk d + uptoBulkAll r
def uptoBulkEntries {H : Type} : List (Lit × DataW H) → Nat
  | [] => 0
  | x :: r => uptoBulkEntry x + uptoBulkEntries r
def uptoBulkEntry {H : Type} : Lit × DataW H → Nat
  | (.string bytes, d) => bytes.length + uptoBulk d + 1
  | (_, d) => uptoBulk d + 1
 end
def uptoSmall : (H : Type) → List (DataW H) → Bool := fun _ ds => decide (uptoBulkAll ds ≤ 1048576)
def OpenSpec.upto (s : _root_.Go.ChangeSpec) : _root_.Go.OpenSpec := { _root_.Go.OpenSpec.ofChange s with cond := some uptoSmall }

/-- 'dactyllaw01.NumDecs', WHERE WHAT IT READS IS OF BULK AT MOST 1048576: true; the input reads as it did. -/
def numDecsUptoRow : OpenClaim := { program := "ytopmenioioljoaa", sum := "54a1c8521ddb57d96ca65f124c6d06a009e6b16b48eb70206ec7aa57270ff289", func := "dactyl/dactyllaw01.NumDecs", spec := "numDecs", inPlace := ["internal/bytealg.IndexByteString"], unfollowed := true, recurses := true, apart := false, narrowed := true }
def NumDecsUptoSaid : Prop := numDecsUptoRow.holds Try.pinned (OpenSpec.upto numDecsSpec)

/-- 'dactyllaw01.NumHexes', WHERE WHAT IT READS IS OF BULK AT MOST 1048576: true; the input reads as it did. -/
def numHexesUptoRow : OpenClaim := { program := "ytopmenioioljoaa", sum := "54a1c8521ddb57d96ca65f124c6d06a009e6b16b48eb70206ec7aa57270ff289", func := "dactyl/dactyllaw01.NumHexes", spec := "numHexes", inPlace := ["internal/bytealg.IndexByteString"], unfollowed := true, recurses := true, apart := false, narrowed := true }
def NumHexesUptoSaid : Prop := numHexesUptoRow.holds Try.pinned (OpenSpec.upto numHexesSpec)

/-- 'dactyllaw29.CountDoes', WHERE WHAT IT READS IS OF BULK AT MOST 1048576: true; the input reads as it did. -/
def countDoesUptoRow : OpenClaim := { program := "ytopmenioioljoaa", sum := "54a1c8521ddb57d96ca65f124c6d06a009e6b16b48eb70206ec7aa57270ff289", func := "dactyl/dactyllaw29.CountDoes", spec := "countDoes", unfollowed := true, recurses := true, apart := false, narrowed := true }
def CountDoesUptoSaid : Prop := countDoesUptoRow.holds Try.pinned (OpenSpec.upto countDoesSpec)

/-- 'dactyllaw29.CountTells', WHERE WHAT IT READS IS OF BULK AT MOST 1048576: true; the input reads as it did. -/
def countTellsUptoRow : OpenClaim := { program := "ytopmenioioljoaa", sum := "54a1c8521ddb57d96ca65f124c6d06a009e6b16b48eb70206ec7aa57270ff289", func := "dactyl/dactyllaw29.CountTells", spec := "countTells", unfollowed := true, recurses := true, apart := false, narrowed := true }
def CountTellsUptoSaid : Prop := countTellsUptoRow.holds Try.pinned (OpenSpec.upto countTellsSpec)

/-- 'dactyllaw42.MacroDoes', WHERE WHAT IT READS IS OF BULK AT MOST 1048576: true; the input reads as it did. -/
def macroDoesUptoRow : OpenClaim := { program := "ytopmenioioljoaa", sum := "54a1c8521ddb57d96ca65f124c6d06a009e6b16b48eb70206ec7aa57270ff289", func := "dactyl/dactyllaw42.MacroDoes", spec := "macroDoes", unfollowed := true, recurses := true, apart := false, narrowed := true }
def MacroDoesUptoSaid : Prop := macroDoesUptoRow.holds Try.pinned (OpenSpec.upto macroDoesSpec)

/-- 'dactyllaw16.GapDoes', WHERE WHAT IT READS IS OF BULK AT MOST 1048576: true; the input reads as it did. -/
def gapDoesUptoRow : OpenClaim := { program := "ytopmenioioljoaa", sum := "54a1c8521ddb57d96ca65f124c6d06a009e6b16b48eb70206ec7aa57270ff289", func := "dactyl/dactyllaw16.GapDoes", spec := "gapDoes", unfollowed := true, recurses := true, apart := false, narrowed := true }
def GapDoesUptoSaid : Prop := gapDoesUptoRow.holds Try.pinned (OpenSpec.upto gapDoesSpec)

/-- 'dactyllaw16.GapNone', WHERE WHAT IT READS IS OF BULK AT MOST 1048576: true; the input reads as it did. -/
def gapNoneUptoRow : OpenClaim := { program := "ytopmenioioljoaa", sum := "54a1c8521ddb57d96ca65f124c6d06a009e6b16b48eb70206ec7aa57270ff289", func := "dactyl/dactyllaw16.GapNone", spec := "gapNone", unfollowed := true, recurses := true, apart := false, narrowed := true }
def GapNoneUptoSaid : Prop := gapNoneUptoRow.holds Try.pinned (OpenSpec.upto gapNoneSpec)

/-- 'dactyllaw16.GapFull', WHERE WHAT IT READS IS OF BULK AT MOST 1048576: true; the input reads as it did. -/
def gapFullUptoRow : OpenClaim := { program := "ytopmenioioljoaa", sum := "54a1c8521ddb57d96ca65f124c6d06a009e6b16b48eb70206ec7aa57270ff289", func := "dactyl/dactyllaw16.GapFull", spec := "gapFull", unfollowed := true, recurses := true, apart := false, narrowed := true }
def GapFullUptoSaid : Prop := gapFullUptoRow.holds Try.pinned (OpenSpec.upto gapFullSpec)

end Rows
end Go.Proofs.Ytopmenioioljoaa
