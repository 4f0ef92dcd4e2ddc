/-
  No cell of these rows narrows 'for every input' (looked for: loops, veiled, ifaces, maps, wideKeys, modest, calm, conditions, laid).
  DERIVED. THE GIVEN ROWS OF THIS SEAT. 5 by the template 'for every input the law returns true; each argument reads behind the call as it read before'; 0 by the template 'total and deterministic' (their statements: YtidpkomcgkcfjaaTotals.lean).
  GIVEN WITH THE SEED: the statements are not yours to turn. If you find one false, say at which input.
  Laid BY PROGRAM, IN A SANDBOX (cutbox-rows.mjs): the forced cells as the released guide's own fill.sh prints them over the translation 9ef23aeabc62fe78… (all of the seat's roots in one cut). By AI agents, Wed Nov 11 2026. No macro, syntax, notation, axiom, sorry.
-/
import Derived.Test.YtidpkomcgkcfjaaChecked
import GoSem.Claim
import GoSem.ClaimJoined
import GoSem.ClaimMapViews
import Derived.JoinedTies
import Derived.KernelRfl
namespace Go.Proofs.Ytidpkomcgkcfjaa
/- THE CELL 'sum', in the pinned program and in every row, IS THE sha256 OF THE DUMP (.gsa) THAT YtidpkomcgkcfjaaProg.lean LOADS. Nothing in Lean hashes anything: it is a label: what it is worth is what the hold of that sum in a sandbox is worth. -/
noncomputable def Try.pinned : Pinned := { name := "ytidpkomcgkcfjaa", sum := "9ef23aeabc62fe7848750b78527c5938bea7cd4bfd257eacf2e5efc732dff7f0", checked := Try.checked }
namespace Rows
def none {H : Type} : Left H := { results := [], args := [] }

/-- 'foliotlaw16.SafeRights': WHATEVER THE INPUT: true; the input reads as it did. -/
def safeRightsSpec : ChangeSpec := { name := "safeRights", fn := fun _ => fun
  | [d] => { results := [.lit (.bool true)], args := [d] }
  | _ => none }
def safeRightsRow : OpenClaim := { program := "ytidpkomcgkcfjaa", sum := "9ef23aeabc62fe7848750b78527c5938bea7cd4bfd257eacf2e5efc732dff7f0", func := "foliot/foliotlaw16.SafeRights", spec := "safeRights", unfollowed := true, recurses := true, apart := false }
def SafeRightsSaid : Prop := safeRightsRow.holds Try.pinned (OpenSpec.ofChange safeRightsSpec)

/-- ITS FALSE NEIGHBOUR: 'it returns false'. Refute it at one input. -/
def safeRightsWrong : ChangeSpec := { name := "safeRights", fn := fun _ => fun
  | [d] => { results := [.lit (.bool false)], args := [d] }
  | _ => none }
def SafeRightsWrongFalsely : Prop := safeRightsRow.holds Try.pinned (OpenSpec.ofChange safeRightsWrong)

/-- 'foliotlaw16.SafeMade': WHATEVER THE INPUT: true; the input reads as it did. -/
def safeMadeSpec : ChangeSpec := { name := "safeMade", fn := fun _ => fun
  | [d] => { results := [.lit (.bool true)], args := [d] }
  | _ => none }
def safeMadeRow : OpenClaim := { program := "ytidpkomcgkcfjaa", sum := "9ef23aeabc62fe7848750b78527c5938bea7cd4bfd257eacf2e5efc732dff7f0", func := "foliot/foliotlaw16.SafeMade", spec := "safeMade", unfollowed := true, recurses := true, apart := false }
def SafeMadeSaid : Prop := safeMadeRow.holds Try.pinned (OpenSpec.ofChange safeMadeSpec)

/-- ITS FALSE NEIGHBOUR: 'it returns false'. Refute it at one input. -/
def safeMadeWrong : ChangeSpec := { name := "safeMade", fn := fun _ => fun
  | [d] => { results := [.lit (.bool false)], args := [d] }
  | _ => none }
def SafeMadeWrongFalsely : Prop := safeMadeRow.holds Try.pinned (OpenSpec.ofChange safeMadeWrong)

/-- 'foliotlaw16.SafeBodies': WHATEVER THE INPUT: true; the input reads as it did. -/
def safeBodiesSpec : ChangeSpec := { name := "safeBodies", fn := fun _ => fun
  | [d] => { results := [.lit (.bool true)], args := [d] }
  | _ => none }
def safeBodiesRow : OpenClaim := { program := "ytidpkomcgkcfjaa", sum := "9ef23aeabc62fe7848750b78527c5938bea7cd4bfd257eacf2e5efc732dff7f0", func := "foliot/foliotlaw16.SafeBodies", spec := "safeBodies", unfollowed := true, recurses := true, apart := false }
def SafeBodiesSaid : Prop := safeBodiesRow.holds Try.pinned (OpenSpec.ofChange safeBodiesSpec)

/-- ITS FALSE NEIGHBOUR: 'it returns false'. Refute it at one input. -/
def safeBodiesWrong : ChangeSpec := { name := "safeBodies", fn := fun _ => fun
  | [d] => { results := [.lit (.bool false)], args := [d] }
  | _ => none }
def SafeBodiesWrongFalsely : Prop := safeBodiesRow.holds Try.pinned (OpenSpec.ofChange safeBodiesWrong)

/-- 'foliotlaw16.SafeReads': WHATEVER THE INPUT: true; the input reads as it did. -/
def safeReadsSpec : ChangeSpec := { name := "safeReads", fn := fun _ => fun
  | [d] => { results := [.lit (.bool true)], args := [d] }
  | _ => none }
def safeReadsRow : OpenClaim := { program := "ytidpkomcgkcfjaa", sum := "9ef23aeabc62fe7848750b78527c5938bea7cd4bfd257eacf2e5efc732dff7f0", func := "foliot/foliotlaw16.SafeReads", spec := "safeReads", unfollowed := true, recurses := true, apart := false }
def SafeReadsSaid : Prop := safeReadsRow.holds Try.pinned (OpenSpec.ofChange safeReadsSpec)

/-- ITS FALSE NEIGHBOUR: 'it returns false'. Refute it at one input. -/
def safeReadsWrong : ChangeSpec := { name := "safeReads", fn := fun _ => fun
  | [d] => { results := [.lit (.bool false)], args := [d] }
  | _ => none }
def SafeReadsWrongFalsely : Prop := safeReadsRow.holds Try.pinned (OpenSpec.ofChange safeReadsWrong)

/-- 'foliotlaw16.SafeCut': WHATEVER THE INPUT: true; the input reads as it did. -/
def safeCutSpec : ChangeSpec := { name := "safeCut", fn := fun _ => fun
  | [d1, d2] => { results := [.lit (.bool true)], args := [d1, d2] }
  | _ => none }
def safeCutRow : OpenClaim := { program := "ytidpkomcgkcfjaa", sum := "9ef23aeabc62fe7848750b78527c5938bea7cd4bfd257eacf2e5efc732dff7f0", func := "foliot/foliotlaw16.SafeCut", spec := "safeCut", unfollowed := true, recurses := true, apart := false }
def SafeCutSaid : Prop := safeCutRow.holds Try.pinned (OpenSpec.ofChange safeCutSpec)

/-- ITS FALSE NEIGHBOUR: 'it returns false'. Refute it at one input. -/
def safeCutWrong : ChangeSpec := { name := "safeCut", fn := fun _ => fun
  | [d1, d2] => { results := [.lit (.bool false)], args := [d1, d2] }
  | _ => none }
def SafeCutWrongFalsely : Prop := safeCutRow.holds Try.pinned (OpenSpec.ofChange safeCutWrong)

/- THE SECOND FORM. 'bulk': how many values and letters a reading holds, each counted each time it is reached (what is shared counts as often as it is met; a slice's spare places count too). A statement '..UptoSaid' is the law's where the arguments, and the package variables that the reading takes, are together of bulk at most 1048576: NARROWER than '..Said'. Prove '..Said' where nothing that the law and all that it calls make is longer than what came in: it says more and counts as full. Else prove '..UptoSaid'. A law counts once. -/
mutual
def uptoBulk {H : Type} : DataW H → Nat
  | .lit (.string bytes) => bytes.length + 1
  | .lit _ => 1
  | .nil => 1
  | .ptr d => uptoBulk d + 1
  | .slice elems spare => uptoBulkAll elems + uptoBulkAll spare + 1
  | .agg parts => uptoBulkAll parts + 1
  | .iface _ d => uptoBulk d + 1
  | .map entries => uptoBulkEntries entries + 1
  | .held _ => 1
def uptoBulkAll {H : Type} : List (DataW H) → Nat
  | [] => 0
  | d :: r => uptoBulk d + uptoBulkAll r
def uptoBulkEntries {H : Type} : List (Lit × DataW H) → Nat
  | [] => 0
  | x :: r => uptoBulkEntry x + uptoBulkEntries r
def uptoBulkEntry {H : Type} : Lit × DataW H → Nat
  | (.string bytes, d) => bytes.length + uptoBulk d + 1
  | (_, d) => uptoBulk d + 1
 end
def uptoSmall : (H : Type) → List (DataW H) → Bool := fun _ ds => decide (uptoBulkAll ds ≤ 1048576)
def OpenSpec.upto (s : _root_.Go.ChangeSpec) : _root_.Go.OpenSpec := { _root_.Go.OpenSpec.ofChange s with cond := some uptoSmall }

/-- 'foliotlaw16.SafeRights', WHERE WHAT IT READS IS OF BULK AT MOST 1048576: true; the input reads as it did. -/
def safeRightsUptoRow : OpenClaim := { program := "ytidpkomcgkcfjaa", sum := "9ef23aeabc62fe7848750b78527c5938bea7cd4bfd257eacf2e5efc732dff7f0", func := "foliot/foliotlaw16.SafeRights", spec := "safeRights", unfollowed := true, recurses := true, apart := false, narrowed := true }
def SafeRightsUptoSaid : Prop := safeRightsUptoRow.holds Try.pinned (OpenSpec.upto safeRightsSpec)

/-- 'foliotlaw16.SafeMade', WHERE WHAT IT READS IS OF BULK AT MOST 1048576: true; the input reads as it did. -/
def safeMadeUptoRow : OpenClaim := { program := "ytidpkomcgkcfjaa", sum := "9ef23aeabc62fe7848750b78527c5938bea7cd4bfd257eacf2e5efc732dff7f0", func := "foliot/foliotlaw16.SafeMade", spec := "safeMade", unfollowed := true, recurses := true, apart := false, narrowed := true }
def SafeMadeUptoSaid : Prop := safeMadeUptoRow.holds Try.pinned (OpenSpec.upto safeMadeSpec)

/-- 'foliotlaw16.SafeBodies', WHERE WHAT IT READS IS OF BULK AT MOST 1048576: true; the input reads as it did. -/
def safeBodiesUptoRow : OpenClaim := { program := "ytidpkomcgkcfjaa", sum := "9ef23aeabc62fe7848750b78527c5938bea7cd4bfd257eacf2e5efc732dff7f0", func := "foliot/foliotlaw16.SafeBodies", spec := "safeBodies", unfollowed := true, recurses := true, apart := false, narrowed := true }
def SafeBodiesUptoSaid : Prop := safeBodiesUptoRow.holds Try.pinned (OpenSpec.upto safeBodiesSpec)

/-- 'foliotlaw16.SafeReads', WHERE WHAT IT READS IS OF BULK AT MOST 1048576: true; the input reads as it did. -/
def safeReadsUptoRow : OpenClaim := { program := "ytidpkomcgkcfjaa", sum := "9ef23aeabc62fe7848750b78527c5938bea7cd4bfd257eacf2e5efc732dff7f0", func := "foliot/foliotlaw16.SafeReads", spec := "safeReads", unfollowed := true, recurses := true, apart := false, narrowed := true }
def SafeReadsUptoSaid : Prop := safeReadsUptoRow.holds Try.pinned (OpenSpec.upto safeReadsSpec)

/-- 'foliotlaw16.SafeCut', WHERE WHAT IT READS IS OF BULK AT MOST 1048576: true; the input reads as it did. -/
def safeCutUptoRow : OpenClaim := { program := "ytidpkomcgkcfjaa", sum := "9ef23aeabc62fe7848750b78527c5938bea7cd4bfd257eacf2e5efc732dff7f0", func := "foliot/foliotlaw16.SafeCut", spec := "safeCut", unfollowed := true, recurses := true, apart := false, narrowed := true }
def SafeCutUptoSaid : Prop := safeCutUptoRow.holds Try.pinned (OpenSpec.upto safeCutSpec)

end Rows
end Go.Proofs.Ytidpkomcgkcfjaa
