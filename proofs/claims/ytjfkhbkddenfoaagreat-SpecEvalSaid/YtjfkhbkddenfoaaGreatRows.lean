/-
  NARROWER THAN 'FOR EVERY INPUT', by the rows' own cells (each row's printed sentence says how): SpecEval: loops · SpecWatch: loops · SpecMore: loops.
  DERIVED. THE GIVEN ROWS OF THIS SEAT. 3 by the template 'for every input the law returns true; each argument reads behind the call as it read before'; 0 by the template 'total and deterministic' (their statements: YtjfkhbkddenfoaaGreatTotals.lean).
  GIVEN WITH THE SEED: the statements are not yours to turn. If you find one false, say at which input.
  Laid BY PROGRAM, IN A SANDBOX (cutbox-rows.mjs): the forced cells as the released guide's own fill.sh prints them over the translation 51867f4bd3cc8ce2… (all of the seat's roots in one cut). By AI agents, Wed Nov 11 2026. No macro, syntax, notation, axiom, sorry.
-/
import Derived.Test.YtjfkhbkddenfoaaGreatChecked
import GoSem.Claim
import GoSem.ClaimJoined
import GoSem.ClaimMapViews
import Derived.JoinedTies
import Derived.KernelRfl
namespace Go.Proofs.YtjfkhbkddenfoaaGreat
/- THE CELL 'sum', in the pinned program and in every row, IS THE sha256 OF THE DUMP (.gsa) THAT YtjfkhbkddenfoaaGreatProg.lean LOADS. Nothing in Lean hashes anything: it is a label: what it is worth is what the hold of that sum in a sandbox is worth. -/
noncomputable def Tryz.pinned : Pinned := { name := "ytjfkhbkddenfoaagreat", sum := "51867f4bd3cc8ce2403d1b43d5508d5b993db65bff90f3c48ad330cba4a96bd9", checked := Tryz.checked }
namespace Rows
def none {H : Type} : Left H := { results := [], args := [] }

/-- 'foliotlaw27.SpecEval': WHATEVER THE INPUT: true; the input reads as it did. -/
def specEvalSpec : ChangeSpec := { name := "specEval", fn := fun _ => fun
  | [d1, d2] => { results := [.lit (.bool true)], args := [d1, d2] }
  | _ => none }
def specEvalRow : OpenClaim := { program := "ytjfkhbkddenfoaagreat", sum := "51867f4bd3cc8ce2403d1b43d5508d5b993db65bff90f3c48ad330cba4a96bd9", func := "foliot/foliotlaw27.SpecEval", spec := "specEval", unfollowed := true, recurses := true, loops := true, apart := false }
def SpecEvalSaid : Prop := specEvalRow.holds Tryz.pinned (OpenSpec.ofChange specEvalSpec)

/-- ITS FALSE NEIGHBOUR: 'it returns false'. Refute it at one input. -/
def specEvalWrong : ChangeSpec := { name := "specEval", fn := fun _ => fun
  | [d1, d2] => { results := [.lit (.bool false)], args := [d1, d2] }
  | _ => none }
def SpecEvalWrongFalsely : Prop := specEvalRow.holds Tryz.pinned (OpenSpec.ofChange specEvalWrong)

/-- 'foliotlaw27.SpecWatch': WHATEVER THE INPUT: true; the input reads as it did. -/
def specWatchSpec : ChangeSpec := { name := "specWatch", fn := fun _ => fun
  | [d1, d2, d3] => { results := [.lit (.bool true)], args := [d1, d2, d3] }
  | _ => none }
def specWatchRow : OpenClaim := { program := "ytjfkhbkddenfoaagreat", sum := "51867f4bd3cc8ce2403d1b43d5508d5b993db65bff90f3c48ad330cba4a96bd9", func := "foliot/foliotlaw27.SpecWatch", spec := "specWatch", unfollowed := true, recurses := true, loops := true, apart := false }
def SpecWatchSaid : Prop := specWatchRow.holds Tryz.pinned (OpenSpec.ofChange specWatchSpec)

/-- ITS FALSE NEIGHBOUR: 'it returns false'. Refute it at one input. -/
def specWatchWrong : ChangeSpec := { name := "specWatch", fn := fun _ => fun
  | [d1, d2, d3] => { results := [.lit (.bool false)], args := [d1, d2, d3] }
  | _ => none }
def SpecWatchWrongFalsely : Prop := specWatchRow.holds Tryz.pinned (OpenSpec.ofChange specWatchWrong)

/-- 'foliotlaw27.SpecMore': WHATEVER THE INPUT: true; the input reads as it did. -/
def specMoreSpec : ChangeSpec := { name := "specMore", fn := fun _ => fun
  | [d1, d2, d3] => { results := [.lit (.bool true)], args := [d1, d2, d3] }
  | _ => none }
def specMoreRow : OpenClaim := { program := "ytjfkhbkddenfoaagreat", sum := "51867f4bd3cc8ce2403d1b43d5508d5b993db65bff90f3c48ad330cba4a96bd9", func := "foliot/foliotlaw27.SpecMore", spec := "specMore", unfollowed := true, recurses := true, loops := true, apart := false }
def SpecMoreSaid : Prop := specMoreRow.holds Tryz.pinned (OpenSpec.ofChange specMoreSpec)

/-- ITS FALSE NEIGHBOUR: 'it returns false'. Refute it at one input. -/
def specMoreWrong : ChangeSpec := { name := "specMore", fn := fun _ => fun
  | [d1, d2, d3] => { results := [.lit (.bool false)], args := [d1, d2, d3] }
  | _ => none }
def SpecMoreWrongFalsely : Prop := specMoreRow.holds Tryz.pinned (OpenSpec.ofChange specMoreWrong)

/- THE SECOND FORM. 'bulk': how many values and letters a reading holds, each counted each time it is reached (what is shared counts as often as it is met; a slice's spare places count too). A statement '..UptoSaid' is the law's where the arguments, and the package variables that the reading takes, are together of bulk at most 1048576: NARROWER than '..Said'. Prove '..Said' where nothing that the law and all that it calls make is longer than what came in: it says more and counts as full. Else prove '..UptoSaid'. A law counts once. -/
mutual
def uptoBulk {H : Type} : DataW H → Nat
  | .lit (.string bytes) => bytes.length + 1
  | .lit _ => 1
  | .nil => 1
  | .ptr d => uptoBulk d + 1
  | .slice elems spare => uptoBulkAll elems + uptoBulkAll spare + 1
  | .agg parts => uptoBulkAll parts + 1
  | .iface _ d => uptoBulk d + 1
  | .map entries => uptoBulkEntries entries + 1
  | .held _ => 1
def uptoBulkAll {H : Type} : List (DataW H) → Nat
  | [] => 0
  | d :: r => uptoBulk d + uptoBulkAll r
def uptoBulkEntries {H : Type} : List (Lit × DataW H) → Nat
  | [] => 0
  | x :: r => uptoBulkEntry x + uptoBulkEntries r
def uptoBulkEntry {H : Type} : Lit × DataW H → Nat
  | (.string bytes, d) => bytes.length + uptoBulk d + 1
  | (_, d) => uptoBulk d + 1
 end
def uptoSmall : (H : Type) → List (DataW H) → Bool := fun _ ds => decide (uptoBulkAll ds ≤ 1048576)
def OpenSpec.upto (s : _root_.Go.ChangeSpec) : _root_.Go.OpenSpec := { _root_.Go.OpenSpec.ofChange s with cond := some uptoSmall }

/-- 'foliotlaw27.SpecEval', WHERE WHAT IT READS IS OF BULK AT MOST 1048576: true; the input reads as it did. -/
def specEvalUptoRow : OpenClaim := { program := "ytjfkhbkddenfoaagreat", sum := "51867f4bd3cc8ce2403d1b43d5508d5b993db65bff90f3c48ad330cba4a96bd9", func := "foliot/foliotlaw27.SpecEval", spec := "specEval", unfollowed := true, recurses := true, loops := true, apart := false, narrowed := true }
def SpecEvalUptoSaid : Prop := specEvalUptoRow.holds Tryz.pinned (OpenSpec.upto specEvalSpec)

/-- 'foliotlaw27.SpecWatch', WHERE WHAT IT READS IS OF BULK AT MOST 1048576: true; the input reads as it did. -/
def specWatchUptoRow : OpenClaim := { program := "ytjfkhbkddenfoaagreat", sum := "51867f4bd3cc8ce2403d1b43d5508d5b993db65bff90f3c48ad330cba4a96bd9", func := "foliot/foliotlaw27.SpecWatch", spec := "specWatch", unfollowed := true, recurses := true, loops := true, apart := false, narrowed := true }
def SpecWatchUptoSaid : Prop := specWatchUptoRow.holds Tryz.pinned (OpenSpec.upto specWatchSpec)

/-- 'foliotlaw27.SpecMore', WHERE WHAT IT READS IS OF BULK AT MOST 1048576: true; the input reads as it did. -/
def specMoreUptoRow : OpenClaim := { program := "ytjfkhbkddenfoaagreat", sum := "51867f4bd3cc8ce2403d1b43d5508d5b993db65bff90f3c48ad330cba4a96bd9", func := "foliot/foliotlaw27.SpecMore", spec := "specMore", unfollowed := true, recurses := true, loops := true, apart := false, narrowed := true }
def SpecMoreUptoSaid : Prop := specMoreUptoRow.holds Tryz.pinned (OpenSpec.upto specMoreSpec)

end Rows
end Go.Proofs.YtjfkhbkddenfoaaGreat
