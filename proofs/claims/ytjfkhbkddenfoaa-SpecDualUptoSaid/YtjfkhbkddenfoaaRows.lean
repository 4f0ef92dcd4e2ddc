/-
  NARROWER THAN 'FOR EVERY INPUT', by the rows' own cells (each row's printed sentence says how): SpecDual: loops · SpecSince: loops · SpecNone: loops.
  DERIVED. THE GIVEN ROWS OF THIS SEAT. 7 by the template 'for every input the law returns true; each argument reads behind the call as it read before'; 0 by the template 'total and deterministic' (their statements: YtjfkhbkddenfoaaTotals.lean).
  GIVEN WITH THE SEED: the statements are not yours to turn. If you find one false, say at which input.
  Laid BY PROGRAM, IN A SANDBOX (cutbox-rows.mjs): the forced cells as the released guide's own fill.sh prints them over the translation baca83e5158d6856… (all of the seat's roots in one cut). By AI agents, Wed Nov 11 2026. No macro, syntax, notation, axiom, sorry.
-/
import Derived.Test.YtjfkhbkddenfoaaChecked
import GoSem.Claim
import GoSem.ClaimJoined
import GoSem.ClaimMapViews
import Derived.JoinedTies
import Derived.KernelRfl
namespace Go.Proofs.Ytjfkhbkddenfoaa
/- THE CELL 'sum', in the pinned program and in every row, IS THE sha256 OF THE DUMP (.gsa) THAT YtjfkhbkddenfoaaProg.lean LOADS. Nothing in Lean hashes anything: it is a label: what it is worth is what the hold of that sum in a sandbox is worth. -/
noncomputable def Try.pinned : Pinned := { name := "ytjfkhbkddenfoaa", sum := "baca83e5158d6856d1231f1da32e8067498ff05981508d7e3aef658d102d6534", checked := Try.checked }
namespace Rows
def none {H : Type} : Left H := { results := [], args := [] }

/-- 'foliotlaw18.SolveTells': WHATEVER THE INPUT: true; the input reads as it did. -/
def solveTellsSpec : ChangeSpec := { name := "solveTells", fn := fun _ => fun
  | [d1, d2] => { results := [.lit (.bool true)], args := [d1, d2] }
  | _ => none }
def solveTellsRow : OpenClaim := { program := "ytjfkhbkddenfoaa", sum := "baca83e5158d6856d1231f1da32e8067498ff05981508d7e3aef658d102d6534", func := "foliot/foliotlaw18.SolveTells", spec := "solveTells", unfollowed := true, recurses := true, apart := false }
def SolveTellsSaid : Prop := solveTellsRow.holds Try.pinned (OpenSpec.ofChange solveTellsSpec)

/-- ITS FALSE NEIGHBOUR: 'it returns false'. Refute it at one input. -/
def solveTellsWrong : ChangeSpec := { name := "solveTells", fn := fun _ => fun
  | [d1, d2] => { results := [.lit (.bool false)], args := [d1, d2] }
  | _ => none }
def SolveTellsWrongFalsely : Prop := solveTellsRow.holds Try.pinned (OpenSpec.ofChange solveTellsWrong)

/-- 'foliotlaw18.SolveExact': WHATEVER THE INPUT: true; the input reads as it did. -/
def solveExactSpec : ChangeSpec := { name := "solveExact", fn := fun _ => fun
  | [d1, d2] => { results := [.lit (.bool true)], args := [d1, d2] }
  | _ => none }
def solveExactRow : OpenClaim := { program := "ytjfkhbkddenfoaa", sum := "baca83e5158d6856d1231f1da32e8067498ff05981508d7e3aef658d102d6534", func := "foliot/foliotlaw18.SolveExact", spec := "solveExact", unfollowed := true, recurses := true, apart := false }
def SolveExactSaid : Prop := solveExactRow.holds Try.pinned (OpenSpec.ofChange solveExactSpec)

/-- ITS FALSE NEIGHBOUR: 'it returns false'. Refute it at one input. -/
def solveExactWrong : ChangeSpec := { name := "solveExact", fn := fun _ => fun
  | [d1, d2] => { results := [.lit (.bool false)], args := [d1, d2] }
  | _ => none }
def SolveExactWrongFalsely : Prop := solveExactRow.holds Try.pinned (OpenSpec.ofChange solveExactWrong)

/-- 'foliotlaw18.SolveFirst': WHATEVER THE INPUT: true; the input reads as it did. -/
def solveFirstSpec : ChangeSpec := { name := "solveFirst", fn := fun _ => fun
  | [d] => { results := [.lit (.bool true)], args := [d] }
  | _ => none }
def solveFirstRow : OpenClaim := { program := "ytjfkhbkddenfoaa", sum := "baca83e5158d6856d1231f1da32e8067498ff05981508d7e3aef658d102d6534", func := "foliot/foliotlaw18.SolveFirst", spec := "solveFirst", unfollowed := true, recurses := true, apart := false }
def SolveFirstSaid : Prop := solveFirstRow.holds Try.pinned (OpenSpec.ofChange solveFirstSpec)

/-- ITS FALSE NEIGHBOUR: 'it returns false'. Refute it at one input. -/
def solveFirstWrong : ChangeSpec := { name := "solveFirst", fn := fun _ => fun
  | [d] => { results := [.lit (.bool false)], args := [d] }
  | _ => none }
def SolveFirstWrongFalsely : Prop := solveFirstRow.holds Try.pinned (OpenSpec.ofChange solveFirstWrong)

/-- 'foliotlaw18.SolveTwice': WHATEVER THE INPUT: true; the input reads as it did. -/
def solveTwiceSpec : ChangeSpec := { name := "solveTwice", fn := fun _ => fun
  | [d1, d2] => { results := [.lit (.bool true)], args := [d1, d2] }
  | _ => none }
def solveTwiceRow : OpenClaim := { program := "ytjfkhbkddenfoaa", sum := "baca83e5158d6856d1231f1da32e8067498ff05981508d7e3aef658d102d6534", func := "foliot/foliotlaw18.SolveTwice", spec := "solveTwice", unfollowed := true, recurses := true, apart := false }
def SolveTwiceSaid : Prop := solveTwiceRow.holds Try.pinned (OpenSpec.ofChange solveTwiceSpec)

/-- ITS FALSE NEIGHBOUR: 'it returns false'. Refute it at one input. -/
def solveTwiceWrong : ChangeSpec := { name := "solveTwice", fn := fun _ => fun
  | [d1, d2] => { results := [.lit (.bool false)], args := [d1, d2] }
  | _ => none }
def SolveTwiceWrongFalsely : Prop := solveTwiceRow.holds Try.pinned (OpenSpec.ofChange solveTwiceWrong)

/-- 'foliotlaw27.SpecDual': WHATEVER THE INPUT: true; the input reads as it did. -/
def specDualSpec : ChangeSpec := { name := "specDual", fn := fun _ => fun
  | [d1, d2, d3] => { results := [.lit (.bool true)], args := [d1, d2, d3] }
  | _ => none }
def specDualRow : OpenClaim := { program := "ytjfkhbkddenfoaa", sum := "baca83e5158d6856d1231f1da32e8067498ff05981508d7e3aef658d102d6534", func := "foliot/foliotlaw27.SpecDual", spec := "specDual", unfollowed := true, recurses := true, loops := true, apart := false }
def SpecDualSaid : Prop := specDualRow.holds Try.pinned (OpenSpec.ofChange specDualSpec)

/-- ITS FALSE NEIGHBOUR: 'it returns false'. Refute it at one input. -/
def specDualWrong : ChangeSpec := { name := "specDual", fn := fun _ => fun
  | [d1, d2, d3] => { results := [.lit (.bool false)], args := [d1, d2, d3] }
  | _ => none }
def SpecDualWrongFalsely : Prop := specDualRow.holds Try.pinned (OpenSpec.ofChange specDualWrong)

/-- 'foliotlaw27.SpecSince': WHATEVER THE INPUT: true; the input reads as it did. -/
def specSinceSpec : ChangeSpec := { name := "specSince", fn := fun _ => fun
  | [d1, d2, d3] => { results := [.lit (.bool true)], args := [d1, d2, d3] }
  | _ => none }
def specSinceRow : OpenClaim := { program := "ytjfkhbkddenfoaa", sum := "baca83e5158d6856d1231f1da32e8067498ff05981508d7e3aef658d102d6534", func := "foliot/foliotlaw27.SpecSince", spec := "specSince", unfollowed := true, recurses := true, loops := true, apart := false }
def SpecSinceSaid : Prop := specSinceRow.holds Try.pinned (OpenSpec.ofChange specSinceSpec)

/-- ITS FALSE NEIGHBOUR: 'it returns false'. Refute it at one input. -/
def specSinceWrong : ChangeSpec := { name := "specSince", fn := fun _ => fun
  | [d1, d2, d3] => { results := [.lit (.bool false)], args := [d1, d2, d3] }
  | _ => none }
def SpecSinceWrongFalsely : Prop := specSinceRow.holds Try.pinned (OpenSpec.ofChange specSinceWrong)

/-- 'foliotlaw27.SpecNone': WHATEVER THE INPUT: true; the input reads as it did. -/
def specNoneSpec : ChangeSpec := { name := "specNone", fn := fun _ => fun
  | [d1, d2] => { results := [.lit (.bool true)], args := [d1, d2] }
  | _ => none }
def specNoneRow : OpenClaim := { program := "ytjfkhbkddenfoaa", sum := "baca83e5158d6856d1231f1da32e8067498ff05981508d7e3aef658d102d6534", func := "foliot/foliotlaw27.SpecNone", spec := "specNone", unfollowed := true, recurses := true, loops := true, apart := false }
def SpecNoneSaid : Prop := specNoneRow.holds Try.pinned (OpenSpec.ofChange specNoneSpec)

/-- ITS FALSE NEIGHBOUR: 'it returns false'. Refute it at one input. -/
def specNoneWrong : ChangeSpec := { name := "specNone", fn := fun _ => fun
  | [d1, d2] => { results := [.lit (.bool false)], args := [d1, d2] }
  | _ => none }
def SpecNoneWrongFalsely : Prop := specNoneRow.holds Try.pinned (OpenSpec.ofChange specNoneWrong)

/- THE SECOND FORM. 'bulk': how many values and letters a reading holds, each counted each time it is reached (what is shared counts as often as it is met; a slice's spare places count too). A statement '..UptoSaid' is the law's where the arguments, and the package variables that the reading takes, are together of bulk at most 1048576: NARROWER than '..Said'. Prove '..Said' where nothing that the law and all that it calls make is longer than what came in: it says more and counts as full. Else prove '..UptoSaid'. A law counts once. -/
mutual
def uptoBulk {H : Type} : DataW H → Nat
  | .lit (.string bytes) => bytes.length + 1
  | .lit _ => 1
  | .nil => 1
  | .ptr d => uptoBulk d + 1
  | .slice elems spare => uptoBulkAll elems + uptoBulkAll spare + 1
  | .agg parts => uptoBulkAll parts + 1
  | .iface _ d => uptoBulk d + 1
  | .map entries => uptoBulkEntries entries + 1
  | .held _ => 1
def uptoBulkAll {H : Type} : List (DataW H) → Nat
  | [] => 0
  | d :: r => uptoBulk d + uptoBulkAll r
def uptoBulkEntries {H : Type} : List (Lit × DataW H) → Nat
  | [] => 0
  | x :: r => uptoBulkEntry x + uptoBulkEntries r
def uptoBulkEntry {H : Type} : Lit × DataW H → Nat
  | (.string bytes, d) => bytes.length + uptoBulk d + 1
  | (_, d) => uptoBulk d + 1
 end
def uptoSmall : (H : Type) → List (DataW H) → Bool := fun _ ds => decide (uptoBulkAll ds ≤ 1048576)
def OpenSpec.upto (s : _root_.Go.ChangeSpec) : _root_.Go.OpenSpec := { _root_.Go.OpenSpec.ofChange s with cond := some uptoSmall }

/-- 'foliotlaw18.SolveTells', WHERE WHAT IT READS IS OF BULK AT MOST 1048576: true; the input reads as it did. -/
def solveTellsUptoRow : OpenClaim := { program := "ytjfkhbkddenfoaa", sum := "baca83e5158d6856d1231f1da32e8067498ff05981508d7e3aef658d102d6534", func := "foliot/foliotlaw18.SolveTells", spec := "solveTells", unfollowed := true, recurses := true, apart := false, narrowed := true }
def SolveTellsUptoSaid : Prop := solveTellsUptoRow.holds Try.pinned (OpenSpec.upto solveTellsSpec)

/-- 'foliotlaw18.SolveExact', WHERE WHAT IT READS IS OF BULK AT MOST 1048576: true; the input reads as it did. -/
def solveExactUptoRow : OpenClaim := { program := "ytjfkhbkddenfoaa", sum := "baca83e5158d6856d1231f1da32e8067498ff05981508d7e3aef658d102d6534", func := "foliot/foliotlaw18.SolveExact", spec := "solveExact", unfollowed := true, recurses := true, apart := false, narrowed := true }
def SolveExactUptoSaid : Prop := solveExactUptoRow.holds Try.pinned (OpenSpec.upto solveExactSpec)

/-- 'foliotlaw18.SolveFirst', WHERE WHAT IT READS IS OF BULK AT MOST 1048576: true; the input reads as it did. -/
def solveFirstUptoRow : OpenClaim := { program := "ytjfkhbkddenfoaa", sum := "baca83e5158d6856d1231f1da32e8067498ff05981508d7e3aef658d102d6534", func := "foliot/foliotlaw18.SolveFirst", spec := "solveFirst", unfollowed := true, recurses := true, apart := false, narrowed := true }
def SolveFirstUptoSaid : Prop := solveFirstUptoRow.holds Try.pinned (OpenSpec.upto solveFirstSpec)

/-- 'foliotlaw18.SolveTwice', WHERE WHAT IT READS IS OF BULK AT MOST 1048576: true; the input reads as it did. -/
def solveTwiceUptoRow : OpenClaim := { program := "ytjfkhbkddenfoaa", sum := "baca83e5158d6856d1231f1da32e8067498ff05981508d7e3aef658d102d6534", func := "foliot/foliotlaw18.SolveTwice", spec := "solveTwice", unfollowed := true, recurses := true, apart := false, narrowed := true }
def SolveTwiceUptoSaid : Prop := solveTwiceUptoRow.holds Try.pinned (OpenSpec.upto solveTwiceSpec)

/-- 'foliotlaw27.SpecDual', WHERE WHAT IT READS IS OF BULK AT MOST 1048576: true; the input reads as it did. -/
def specDualUptoRow : OpenClaim := { program := "ytjfkhbkddenfoaa", sum := "baca83e5158d6856d1231f1da32e8067498ff05981508d7e3aef658d102d6534", func := "foliot/foliotlaw27.SpecDual", spec := "specDual", unfollowed := true, recurses := true, loops := true, apart := false, narrowed := true }
def SpecDualUptoSaid : Prop := specDualUptoRow.holds Try.pinned (OpenSpec.upto specDualSpec)

/-- 'foliotlaw27.SpecSince', WHERE WHAT IT READS IS OF BULK AT MOST 1048576: true; the input reads as it did. -/
def specSinceUptoRow : OpenClaim := { program := "ytjfkhbkddenfoaa", sum := "baca83e5158d6856d1231f1da32e8067498ff05981508d7e3aef658d102d6534", func := "foliot/foliotlaw27.SpecSince", spec := "specSince", unfollowed := true, recurses := true, loops := true, apart := false, narrowed := true }
def SpecSinceUptoSaid : Prop := specSinceUptoRow.holds Try.pinned (OpenSpec.upto specSinceSpec)

/-- 'foliotlaw27.SpecNone', WHERE WHAT IT READS IS OF BULK AT MOST 1048576: true; the input reads as it did. -/
def specNoneUptoRow : OpenClaim := { program := "ytjfkhbkddenfoaa", sum := "baca83e5158d6856d1231f1da32e8067498ff05981508d7e3aef658d102d6534", func := "foliot/foliotlaw27.SpecNone", spec := "specNone", unfollowed := true, recurses := true, loops := true, apart := false, narrowed := true }
def SpecNoneUptoSaid : Prop := specNoneUptoRow.holds Try.pinned (OpenSpec.upto specNoneSpec)

end Rows
end Go.Proofs.Ytjfkhbkddenfoaa
