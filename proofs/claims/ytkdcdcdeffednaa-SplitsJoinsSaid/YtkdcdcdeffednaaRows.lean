/-
  No cell of these rows narrows 'for every input' (looked for: loops, veiled, ifaces, maps, wideKeys, modest, calm, conditions, laid).
  DERIVED. THE GIVEN ROWS OF THIS SEAT. 10 by the template 'for every input the law returns true; each argument reads behind the call as it read before'; 0 by the template 'total and deterministic' (their statements: YtkdcdcdeffednaaTotals.lean).
  GIVEN WITH THE SEED: the statements are not yours to turn. If you find one false, say at which input.
  Laid BY PROGRAM, IN A SANDBOX (cutbox-rows.mjs): the forced cells as the released guide's own fill.sh prints them over the translation 1d8d249d04114145… (all of the seat's roots in one cut). By AI agents, Wed Nov 11 2026. No macro, syntax, notation, axiom, sorry.
-/
import Derived.Test.YtkdcdcdeffednaaChecked
import GoSem.Claim
import GoSem.ClaimJoined
import GoSem.ClaimMapViews
import Derived.JoinedTies
import Derived.KernelRfl
namespace Go.Proofs.Ytkdcdcdeffednaa
/- THE CELL 'sum', in the pinned program and in every row, IS THE sha256 OF THE DUMP (.gsa) THAT YtkdcdcdeffednaaProg.lean LOADS. Nothing in Lean hashes anything: it is a label: what it is worth is what the hold of that sum in a sandbox is worth. -/
noncomputable def Try.pinned : Pinned := { name := "ytkdcdcdeffednaa", sum := "1d8d249d0411414570e4c529de8c07823a8f8697a85a5a25ff33272c9bb92a17", checked := Try.checked }
namespace Rows
def none {H : Type} : Left H := { results := [], args := [] }

/-- 'stenotypelaw43.BurstSwaps': WHATEVER THE INPUT: true; the input reads as it did. -/
def burstSwapsSpec : ChangeSpec := { name := "burstSwaps", fn := fun _ => fun
  | [d1, d2] => { results := [.lit (.bool true)], args := [d1, d2] }
  | _ => none }
def burstSwapsRow : OpenClaim := { program := "ytkdcdcdeffednaa", sum := "1d8d249d0411414570e4c529de8c07823a8f8697a85a5a25ff33272c9bb92a17", func := "stenotype/stenotypelaw43.BurstSwaps", spec := "burstSwaps", unfollowed := true, recurses := true, apart := false }
def BurstSwapsSaid : Prop := burstSwapsRow.holds Try.pinned (OpenSpec.ofChange burstSwapsSpec)

/-- ITS FALSE NEIGHBOUR: 'it returns false'. Refute it at one input. -/
def burstSwapsWrong : ChangeSpec := { name := "burstSwaps", fn := fun _ => fun
  | [d1, d2] => { results := [.lit (.bool false)], args := [d1, d2] }
  | _ => none }
def BurstSwapsWrongFalsely : Prop := burstSwapsRow.holds Try.pinned (OpenSpec.ofChange burstSwapsWrong)

/-- 'stenotypelaw43.BurstChanges': WHATEVER THE INPUT: true; the input reads as it did. -/
def burstChangesSpec : ChangeSpec := { name := "burstChanges", fn := fun _ => fun
  | [d1, d2, d3, d4, d5] => { results := [.lit (.bool true)], args := [d1, d2, d3, d4, d5] }
  | _ => none }
def burstChangesRow : OpenClaim := { program := "ytkdcdcdeffednaa", sum := "1d8d249d0411414570e4c529de8c07823a8f8697a85a5a25ff33272c9bb92a17", func := "stenotype/stenotypelaw43.BurstChanges", spec := "burstChanges", unfollowed := true, recurses := true, apart := false }
def BurstChangesSaid : Prop := burstChangesRow.holds Try.pinned (OpenSpec.ofChange burstChangesSpec)

/-- ITS FALSE NEIGHBOUR: 'it returns false'. Refute it at one input. -/
def burstChangesWrong : ChangeSpec := { name := "burstChanges", fn := fun _ => fun
  | [d1, d2, d3, d4, d5] => { results := [.lit (.bool false)], args := [d1, d2, d3, d4, d5] }
  | _ => none }
def BurstChangesWrongFalsely : Prop := burstChangesRow.holds Try.pinned (OpenSpec.ofChange burstChangesWrong)

/-- 'stenotypelaw43.BurstSpans': WHATEVER THE INPUT: true; the input reads as it did. -/
def burstSpansSpec : ChangeSpec := { name := "burstSpans", fn := fun _ => fun
  | [d1, d2] => { results := [.lit (.bool true)], args := [d1, d2] }
  | _ => none }
def burstSpansRow : OpenClaim := { program := "ytkdcdcdeffednaa", sum := "1d8d249d0411414570e4c529de8c07823a8f8697a85a5a25ff33272c9bb92a17", func := "stenotype/stenotypelaw43.BurstSpans", spec := "burstSpans", unfollowed := true, recurses := true, apart := false }
def BurstSpansSaid : Prop := burstSpansRow.holds Try.pinned (OpenSpec.ofChange burstSpansSpec)

/-- ITS FALSE NEIGHBOUR: 'it returns false'. Refute it at one input. -/
def burstSpansWrong : ChangeSpec := { name := "burstSpans", fn := fun _ => fun
  | [d1, d2] => { results := [.lit (.bool false)], args := [d1, d2] }
  | _ => none }
def BurstSpansWrongFalsely : Prop := burstSpansRow.holds Try.pinned (OpenSpec.ofChange burstSpansWrong)

/-- 'stenotypelaw43.BurstTwice': WHATEVER THE INPUT: true; the input reads as it did. -/
def burstTwiceSpec : ChangeSpec := { name := "burstTwice", fn := fun _ => fun
  | [d1, d2, d3] => { results := [.lit (.bool true)], args := [d1, d2, d3] }
  | _ => none }
def burstTwiceRow : OpenClaim := { program := "ytkdcdcdeffednaa", sum := "1d8d249d0411414570e4c529de8c07823a8f8697a85a5a25ff33272c9bb92a17", func := "stenotype/stenotypelaw43.BurstTwice", spec := "burstTwice", unfollowed := true, recurses := true, apart := false }
def BurstTwiceSaid : Prop := burstTwiceRow.holds Try.pinned (OpenSpec.ofChange burstTwiceSpec)

/-- ITS FALSE NEIGHBOUR: 'it returns false'. Refute it at one input. -/
def burstTwiceWrong : ChangeSpec := { name := "burstTwice", fn := fun _ => fun
  | [d1, d2, d3] => { results := [.lit (.bool false)], args := [d1, d2, d3] }
  | _ => none }
def BurstTwiceWrongFalsely : Prop := burstTwiceRow.holds Try.pinned (OpenSpec.ofChange burstTwiceWrong)

/-- 'stenotypelaw41.SplitsCuts': WHATEVER THE INPUT: true; the input reads as it did. -/
def splitsCutsSpec : ChangeSpec := { name := "splitsCuts", fn := fun _ => fun
  | [d1, d2, d3] => { results := [.lit (.bool true)], args := [d1, d2, d3] }
  | _ => none }
def splitsCutsRow : OpenClaim := { program := "ytkdcdcdeffednaa", sum := "1d8d249d0411414570e4c529de8c07823a8f8697a85a5a25ff33272c9bb92a17", func := "stenotype/stenotypelaw41.SplitsCuts", spec := "splitsCuts", unfollowed := true, recurses := true, apart := false }
def SplitsCutsSaid : Prop := splitsCutsRow.holds Try.pinned (OpenSpec.ofChange splitsCutsSpec)

/-- ITS FALSE NEIGHBOUR: 'it returns false'. Refute it at one input. -/
def splitsCutsWrong : ChangeSpec := { name := "splitsCuts", fn := fun _ => fun
  | [d1, d2, d3] => { results := [.lit (.bool false)], args := [d1, d2, d3] }
  | _ => none }
def SplitsCutsWrongFalsely : Prop := splitsCutsRow.holds Try.pinned (OpenSpec.ofChange splitsCutsWrong)

/-- 'stenotypelaw41.SplitsJoins': WHATEVER THE INPUT: true; the input reads as it did. -/
def splitsJoinsSpec : ChangeSpec := { name := "splitsJoins", fn := fun _ => fun
  | [d1, d2] => { results := [.lit (.bool true)], args := [d1, d2] }
  | _ => none }
def splitsJoinsRow : OpenClaim := { program := "ytkdcdcdeffednaa", sum := "1d8d249d0411414570e4c529de8c07823a8f8697a85a5a25ff33272c9bb92a17", func := "stenotype/stenotypelaw41.SplitsJoins", spec := "splitsJoins", unfollowed := true, recurses := true, apart := false }
def SplitsJoinsSaid : Prop := splitsJoinsRow.holds Try.pinned (OpenSpec.ofChange splitsJoinsSpec)

/-- ITS FALSE NEIGHBOUR: 'it returns false'. Refute it at one input. -/
def splitsJoinsWrong : ChangeSpec := { name := "splitsJoins", fn := fun _ => fun
  | [d1, d2] => { results := [.lit (.bool false)], args := [d1, d2] }
  | _ => none }
def SplitsJoinsWrongFalsely : Prop := splitsJoinsRow.holds Try.pinned (OpenSpec.ofChange splitsJoinsWrong)

/-- 'stenotypelaw43.BurstKnown': WHATEVER THE INPUT: true; the input reads as it did. -/
def burstKnownSpec : ChangeSpec := { name := "burstKnown", fn := fun _ => fun
  | [] => { results := [.lit (.bool true)], args := [] }
  | _ => none }
def burstKnownRow : OpenClaim := { program := "ytkdcdcdeffednaa", sum := "1d8d249d0411414570e4c529de8c07823a8f8697a85a5a25ff33272c9bb92a17", func := "stenotype/stenotypelaw43.BurstKnown", spec := "burstKnown", unfollowed := true, recurses := true, apart := false }
def BurstKnownSaid : Prop := burstKnownRow.holds Try.pinned (OpenSpec.ofChange burstKnownSpec)

/-- ITS FALSE NEIGHBOUR: 'it returns false'. Refute it at one input. -/
def burstKnownWrong : ChangeSpec := { name := "burstKnown", fn := fun _ => fun
  | [] => { results := [.lit (.bool false)], args := [] }
  | _ => none }
def BurstKnownWrongFalsely : Prop := burstKnownRow.holds Try.pinned (OpenSpec.ofChange burstKnownWrong)

/-- 'stenotypelaw41.SplitsKnown': WHATEVER THE INPUT: true; the input reads as it did. -/
def splitsKnownSpec : ChangeSpec := { name := "splitsKnown", fn := fun _ => fun
  | [] => { results := [.lit (.bool true)], args := [] }
  | _ => none }
def splitsKnownRow : OpenClaim := { program := "ytkdcdcdeffednaa", sum := "1d8d249d0411414570e4c529de8c07823a8f8697a85a5a25ff33272c9bb92a17", func := "stenotype/stenotypelaw41.SplitsKnown", spec := "splitsKnown", unfollowed := true, recurses := true, apart := false }
def SplitsKnownSaid : Prop := splitsKnownRow.holds Try.pinned (OpenSpec.ofChange splitsKnownSpec)

/-- ITS FALSE NEIGHBOUR: 'it returns false'. Refute it at one input. -/
def splitsKnownWrong : ChangeSpec := { name := "splitsKnown", fn := fun _ => fun
  | [] => { results := [.lit (.bool false)], args := [] }
  | _ => none }
def SplitsKnownWrongFalsely : Prop := splitsKnownRow.holds Try.pinned (OpenSpec.ofChange splitsKnownWrong)

/-- 'stenotypelaw41.SplitsWhole': WHATEVER THE INPUT: true; the input reads as it did. -/
def splitsWholeSpec : ChangeSpec := { name := "splitsWhole", fn := fun _ => fun
  | [d1, d2] => { results := [.lit (.bool true)], args := [d1, d2] }
  | _ => none }
def splitsWholeRow : OpenClaim := { program := "ytkdcdcdeffednaa", sum := "1d8d249d0411414570e4c529de8c07823a8f8697a85a5a25ff33272c9bb92a17", func := "stenotype/stenotypelaw41.SplitsWhole", spec := "splitsWhole", unfollowed := true, recurses := true, apart := false }
def SplitsWholeSaid : Prop := splitsWholeRow.holds Try.pinned (OpenSpec.ofChange splitsWholeSpec)

/-- ITS FALSE NEIGHBOUR: 'it returns false'. Refute it at one input. -/
def splitsWholeWrong : ChangeSpec := { name := "splitsWhole", fn := fun _ => fun
  | [d1, d2] => { results := [.lit (.bool false)], args := [d1, d2] }
  | _ => none }
def SplitsWholeWrongFalsely : Prop := splitsWholeRow.holds Try.pinned (OpenSpec.ofChange splitsWholeWrong)

/-- 'stenotypelaw41.SplitsScripts': WHATEVER THE INPUT: true; the input reads as it did. -/
def splitsScriptsSpec : ChangeSpec := { name := "splitsScripts", fn := fun _ => fun
  | [d1, d2] => { results := [.lit (.bool true)], args := [d1, d2] }
  | _ => none }
def splitsScriptsRow : OpenClaim := { program := "ytkdcdcdeffednaa", sum := "1d8d249d0411414570e4c529de8c07823a8f8697a85a5a25ff33272c9bb92a17", func := "stenotype/stenotypelaw41.SplitsScripts", spec := "splitsScripts", unfollowed := true, recurses := true, apart := false }
def SplitsScriptsSaid : Prop := splitsScriptsRow.holds Try.pinned (OpenSpec.ofChange splitsScriptsSpec)

/-- ITS FALSE NEIGHBOUR: 'it returns false'. Refute it at one input. -/
def splitsScriptsWrong : ChangeSpec := { name := "splitsScripts", fn := fun _ => fun
  | [d1, d2] => { results := [.lit (.bool false)], args := [d1, d2] }
  | _ => none }
def SplitsScriptsWrongFalsely : Prop := splitsScriptsRow.holds Try.pinned (OpenSpec.ofChange splitsScriptsWrong)

/- THE SECOND FORM. 'bulk': how many values and letters a reading holds, each counted each time it is reached (what is shared counts as often as it is met; a slice's spare places count too). A statement '..UptoSaid' is the law's where the arguments, and the package variables that the reading takes, are together of bulk at most 1048576: NARROWER than '..Said'. Prove '..Said' where nothing that the law and all that it calls make is longer than what came in: it says more and counts as full. Else prove '..UptoSaid'. A law counts once. -/
mutual
def uptoBulk {H : Type} : DataW H → Nat
  | .lit (.string bytes) => bytes.length + 1
  | .lit _ => 1
  | .nil => 1
  | .ptr d => uptoBulk d + 1
  | .slice elems spare => uptoBulkAll elems + uptoBulkAll spare + 1
  | .agg parts => uptoBulkAll parts + 1
  | .iface _ d => uptoBulk d + 1
  | .map entries => uptoBulkEntries entries + 1
  | .held _ => 1
def uptoBulkAll {H : Type} : List (DataW H) → Nat
  | [] => 0
  | d :: r => uptoBulk d + uptoBulkAll r
def uptoBulkEntries {H : Type} : List (Lit × DataW H) → Nat
  | [] => 0
  | x :: r => uptoBulkEntry x + uptoBulkEntries r
def uptoBulkEntry {H : Type} : Lit × DataW H → Nat
  | (.string bytes, d) => bytes.length + uptoBulk d + 1
  | (_, d) => uptoBulk d + 1
 end
def uptoSmall : (H : Type) → List (DataW H) → Bool := fun _ ds => decide (uptoBulkAll ds ≤ 1048576)
def OpenSpec.upto (s : _root_.Go.ChangeSpec) : _root_.Go.OpenSpec := { _root_.Go.OpenSpec.ofChange s with cond := some uptoSmall }

/-- 'stenotypelaw43.BurstSwaps', WHERE WHAT IT READS IS OF BULK AT MOST 1048576: true; the input reads as it did. -/
def burstSwapsUptoRow : OpenClaim := { program := "ytkdcdcdeffednaa", sum := "1d8d249d0411414570e4c529de8c07823a8f8697a85a5a25ff33272c9bb92a17", func := "stenotype/stenotypelaw43.BurstSwaps", spec := "burstSwaps", unfollowed := true, recurses := true, apart := false, narrowed := true }
def BurstSwapsUptoSaid : Prop := burstSwapsUptoRow.holds Try.pinned (OpenSpec.upto burstSwapsSpec)

/-- 'stenotypelaw43.BurstChanges', WHERE WHAT IT READS IS OF BULK AT MOST 1048576: true; the input reads as it did. -/
def burstChangesUptoRow : OpenClaim := { program := "ytkdcdcdeffednaa", sum := "1d8d249d0411414570e4c529de8c07823a8f8697a85a5a25ff33272c9bb92a17", func := "stenotype/stenotypelaw43.BurstChanges", spec := "burstChanges", unfollowed := true, recurses := true, apart := false, narrowed := true }
def BurstChangesUptoSaid : Prop := burstChangesUptoRow.holds Try.pinned (OpenSpec.upto burstChangesSpec)

/-- 'stenotypelaw43.BurstSpans', WHERE WHAT IT READS IS OF BULK AT MOST 1048576: true; the input reads as it did. -/
def burstSpansUptoRow : OpenClaim := { program := "ytkdcdcdeffednaa", sum := "1d8d249d0411414570e4c529de8c07823a8f8697a85a5a25ff33272c9bb92a17", func := "stenotype/stenotypelaw43.BurstSpans", spec := "burstSpans", unfollowed := true, recurses := true, apart := false, narrowed := true }
def BurstSpansUptoSaid : Prop := burstSpansUptoRow.holds Try.pinned (OpenSpec.upto burstSpansSpec)

/-- 'stenotypelaw43.BurstTwice', WHERE WHAT IT READS IS OF BULK AT MOST 1048576: true; the input reads as it did. -/
def burstTwiceUptoRow : OpenClaim := { program := "ytkdcdcdeffednaa", sum := "1d8d249d0411414570e4c529de8c07823a8f8697a85a5a25ff33272c9bb92a17", func := "stenotype/stenotypelaw43.BurstTwice", spec := "burstTwice", unfollowed := true, recurses := true, apart := false, narrowed := true }
def BurstTwiceUptoSaid : Prop := burstTwiceUptoRow.holds Try.pinned (OpenSpec.upto burstTwiceSpec)

/-- 'stenotypelaw41.SplitsCuts', WHERE WHAT IT READS IS OF BULK AT MOST 1048576: true; the input reads as it did. -/
def splitsCutsUptoRow : OpenClaim := { program := "ytkdcdcdeffednaa", sum := "1d8d249d0411414570e4c529de8c07823a8f8697a85a5a25ff33272c9bb92a17", func := "stenotype/stenotypelaw41.SplitsCuts", spec := "splitsCuts", unfollowed := true, recurses := true, apart := false, narrowed := true }
def SplitsCutsUptoSaid : Prop := splitsCutsUptoRow.holds Try.pinned (OpenSpec.upto splitsCutsSpec)

/-- 'stenotypelaw41.SplitsJoins', WHERE WHAT IT READS IS OF BULK AT MOST 1048576: true; the input reads as it did. -/
def splitsJoinsUptoRow : OpenClaim := { program := "ytkdcdcdeffednaa", sum := "1d8d249d0411414570e4c529de8c07823a8f8697a85a5a25ff33272c9bb92a17", func := "stenotype/stenotypelaw41.SplitsJoins", spec := "splitsJoins", unfollowed := true, recurses := true, apart := false, narrowed := true }
def SplitsJoinsUptoSaid : Prop := splitsJoinsUptoRow.holds Try.pinned (OpenSpec.upto splitsJoinsSpec)

/-- 'stenotypelaw43.BurstKnown', WHERE WHAT IT READS IS OF BULK AT MOST 1048576: true; the input reads as it did. -/
def burstKnownUptoRow : OpenClaim := { program := "ytkdcdcdeffednaa", sum := "1d8d249d0411414570e4c529de8c07823a8f8697a85a5a25ff33272c9bb92a17", func := "stenotype/stenotypelaw43.BurstKnown", spec := "burstKnown", unfollowed := true, recurses := true, apart := false, narrowed := true }
def BurstKnownUptoSaid : Prop := burstKnownUptoRow.holds Try.pinned (OpenSpec.upto burstKnownSpec)

/-- 'stenotypelaw41.SplitsKnown', WHERE WHAT IT READS IS OF BULK AT MOST 1048576: true; the input reads as it did. -/
def splitsKnownUptoRow : OpenClaim := { program := "ytkdcdcdeffednaa", sum := "1d8d249d0411414570e4c529de8c07823a8f8697a85a5a25ff33272c9bb92a17", func := "stenotype/stenotypelaw41.SplitsKnown", spec := "splitsKnown", unfollowed := true, recurses := true, apart := false, narrowed := true }
def SplitsKnownUptoSaid : Prop := splitsKnownUptoRow.holds Try.pinned (OpenSpec.upto splitsKnownSpec)

/-- 'stenotypelaw41.SplitsWhole', WHERE WHAT IT READS IS OF BULK AT MOST 1048576: true; the input reads as it did. -/
def splitsWholeUptoRow : OpenClaim := { program := "ytkdcdcdeffednaa", sum := "1d8d249d0411414570e4c529de8c07823a8f8697a85a5a25ff33272c9bb92a17", func := "stenotype/stenotypelaw41.SplitsWhole", spec := "splitsWhole", unfollowed := true, recurses := true, apart := false, narrowed := true }
def SplitsWholeUptoSaid : Prop := splitsWholeUptoRow.holds Try.pinned (OpenSpec.upto splitsWholeSpec)

/-- 'stenotypelaw41.SplitsScripts', WHERE WHAT IT READS IS OF BULK AT MOST 1048576: true; the input reads as it did. -/
def splitsScriptsUptoRow : OpenClaim := { program := "ytkdcdcdeffednaa", sum := "1d8d249d0411414570e4c529de8c07823a8f8697a85a5a25ff33272c9bb92a17", func := "stenotype/stenotypelaw41.SplitsScripts", spec := "splitsScripts", unfollowed := true, recurses := true, apart := false, narrowed := true }
def SplitsScriptsUptoSaid : Prop := splitsScriptsUptoRow.holds Try.pinned (OpenSpec.upto splitsScriptsSpec)

end Rows
end Go.Proofs.Ytkdcdcdeffednaa
