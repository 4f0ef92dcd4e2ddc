/-
  NARROWER THAN 'FOR EVERY INPUT', by the rows' own cells (each row's printed sentence says how): SpecDual: loops · SpecSince: loops · SpecNone: loops.
  DERIVED. THE GIVEN ROWS OF THIS SEAT. 27 by the template 'for every input the law returns true; each argument reads behind the call as it read before'; 0 by the template 'total and deterministic' (their statements: YtaclkccgjpjdjaaTotals.lean).
  GIVEN WITH THE SEED: the statements are not yours to turn. If you find one false, say at which input.
  Laid BY PROGRAM, IN A SANDBOX (cutbox-rows.mjs): the forced cells as the released guide's own fill.sh prints them over the translation f776ed3f1766dbf2… (all of the seat's roots in one cut). By AI agents, Wed Nov 11 2026. No macro, syntax, notation, axiom, sorry.
-/
import Derived.Test.YtaclkccgjpjdjaaChecked
import GoSem.Claim
import GoSem.ClaimJoined
import GoSem.ClaimMapViews
import Derived.JoinedTies
import Derived.KernelRfl
namespace Go.Proofs.Ytaclkccgjpjdjaa
/- THE CELL 'sum', in the pinned program and in every row, IS THE sha256 OF THE DUMP (.gsa) THAT YtaclkccgjpjdjaaProg.lean LOADS. Nothing in Lean hashes anything: it is a label: what it is worth is what the hold of that sum in a sandbox is worth. -/
noncomputable def Try.pinned : Pinned := { name := "ytaclkccgjpjdjaa", sum := "f776ed3f1766dbf272320627a7dfc4c5affec4345b688a2f6386582ba68eb9e5", checked := Try.checked }
namespace Rows
def none {H : Type} : Left H := { results := [], args := [] }

/-- 'foliotlaw01.NatDivides': WHATEVER THE INPUT: true; the input reads as it did. -/
def natDividesSpec : ChangeSpec := { name := "natDivides", fn := fun _ => fun
  | [d1, d2] => { results := [.lit (.bool true)], args := [d1, d2] }
  | _ => none }
def natDividesRow : OpenClaim := { program := "ytaclkccgjpjdjaa", sum := "f776ed3f1766dbf272320627a7dfc4c5affec4345b688a2f6386582ba68eb9e5", func := "foliot/foliotlaw01.NatDivides", spec := "natDivides", unfollowed := true, recurses := true, apart := false }
def NatDividesSaid : Prop := natDividesRow.holds Try.pinned (OpenSpec.ofChange natDividesSpec)

/-- ITS FALSE NEIGHBOUR: 'it returns false'. Refute it at one input. -/
def natDividesWrong : ChangeSpec := { name := "natDivides", fn := fun _ => fun
  | [d1, d2] => { results := [.lit (.bool false)], args := [d1, d2] }
  | _ => none }
def NatDividesWrongFalsely : Prop := natDividesRow.holds Try.pinned (OpenSpec.ofChange natDividesWrong)

/-- 'foliotlaw01.NatTexts': WHATEVER THE INPUT: true; the input reads as it did. -/
def natTextsSpec : ChangeSpec := { name := "natTexts", fn := fun _ => fun
  | [d1, d2] => { results := [.lit (.bool true)], args := [d1, d2] }
  | _ => none }
def natTextsRow : OpenClaim := { program := "ytaclkccgjpjdjaa", sum := "f776ed3f1766dbf272320627a7dfc4c5affec4345b688a2f6386582ba68eb9e5", func := "foliot/foliotlaw01.NatTexts", spec := "natTexts", unfollowed := true, recurses := true, apart := false }
def NatTextsSaid : Prop := natTextsRow.holds Try.pinned (OpenSpec.ofChange natTextsSpec)

/-- ITS FALSE NEIGHBOUR: 'it returns false'. Refute it at one input. -/
def natTextsWrong : ChangeSpec := { name := "natTexts", fn := fun _ => fun
  | [d1, d2] => { results := [.lit (.bool false)], args := [d1, d2] }
  | _ => none }
def NatTextsWrongFalsely : Prop := natTextsRow.holds Try.pinned (OpenSpec.ofChange natTextsWrong)

/-- 'foliotlaw01.NatRest': WHATEVER THE INPUT: true; the input reads as it did. -/
def natRestSpec : ChangeSpec := { name := "natRest", fn := fun _ => fun
  | [d1, d2] => { results := [.lit (.bool true)], args := [d1, d2] }
  | _ => none }
def natRestRow : OpenClaim := { program := "ytaclkccgjpjdjaa", sum := "f776ed3f1766dbf272320627a7dfc4c5affec4345b688a2f6386582ba68eb9e5", func := "foliot/foliotlaw01.NatRest", spec := "natRest", unfollowed := true, recurses := true, apart := false }
def NatRestSaid : Prop := natRestRow.holds Try.pinned (OpenSpec.ofChange natRestSpec)

/-- ITS FALSE NEIGHBOUR: 'it returns false'. Refute it at one input. -/
def natRestWrong : ChangeSpec := { name := "natRest", fn := fun _ => fun
  | [d1, d2] => { results := [.lit (.bool false)], args := [d1, d2] }
  | _ => none }
def NatRestWrongFalsely : Prop := natRestRow.holds Try.pinned (OpenSpec.ofChange natRestWrong)

/-- 'foliotlaw01.NatShares': WHATEVER THE INPUT: true; the input reads as it did. -/
def natSharesSpec : ChangeSpec := { name := "natShares", fn := fun _ => fun
  | [d1, d2, d3] => { results := [.lit (.bool true)], args := [d1, d2, d3] }
  | _ => none }
def natSharesRow : OpenClaim := { program := "ytaclkccgjpjdjaa", sum := "f776ed3f1766dbf272320627a7dfc4c5affec4345b688a2f6386582ba68eb9e5", func := "foliot/foliotlaw01.NatShares", spec := "natShares", unfollowed := true, recurses := true, apart := false }
def NatSharesSaid : Prop := natSharesRow.holds Try.pinned (OpenSpec.ofChange natSharesSpec)

/-- ITS FALSE NEIGHBOUR: 'it returns false'. Refute it at one input. -/
def natSharesWrong : ChangeSpec := { name := "natShares", fn := fun _ => fun
  | [d1, d2, d3] => { results := [.lit (.bool false)], args := [d1, d2, d3] }
  | _ => none }
def NatSharesWrongFalsely : Prop := natSharesRow.holds Try.pinned (OpenSpec.ofChange natSharesWrong)

/-- 'foliotlaw01.NatBack': WHATEVER THE INPUT: true; the input reads as it did. -/
def natBackSpec : ChangeSpec := { name := "natBack", fn := fun _ => fun
  | [d1, d2] => { results := [.lit (.bool true)], args := [d1, d2] }
  | _ => none }
def natBackRow : OpenClaim := { program := "ytaclkccgjpjdjaa", sum := "f776ed3f1766dbf272320627a7dfc4c5affec4345b688a2f6386582ba68eb9e5", func := "foliot/foliotlaw01.NatBack", spec := "natBack", unfollowed := true, recurses := true, apart := false }
def NatBackSaid : Prop := natBackRow.holds Try.pinned (OpenSpec.ofChange natBackSpec)

/-- ITS FALSE NEIGHBOUR: 'it returns false'. Refute it at one input. -/
def natBackWrong : ChangeSpec := { name := "natBack", fn := fun _ => fun
  | [d1, d2] => { results := [.lit (.bool false)], args := [d1, d2] }
  | _ => none }
def NatBackWrongFalsely : Prop := natBackRow.holds Try.pinned (OpenSpec.ofChange natBackWrong)

/-- 'foliotlaw01.NatRing': WHATEVER THE INPUT: true; the input reads as it did. -/
def natRingSpec : ChangeSpec := { name := "natRing", fn := fun _ => fun
  | [d1, d2, d3] => { results := [.lit (.bool true)], args := [d1, d2, d3] }
  | _ => none }
def natRingRow : OpenClaim := { program := "ytaclkccgjpjdjaa", sum := "f776ed3f1766dbf272320627a7dfc4c5affec4345b688a2f6386582ba68eb9e5", func := "foliot/foliotlaw01.NatRing", spec := "natRing", unfollowed := true, recurses := true, apart := false }
def NatRingSaid : Prop := natRingRow.holds Try.pinned (OpenSpec.ofChange natRingSpec)

/-- ITS FALSE NEIGHBOUR: 'it returns false'. Refute it at one input. -/
def natRingWrong : ChangeSpec := { name := "natRing", fn := fun _ => fun
  | [d1, d2, d3] => { results := [.lit (.bool false)], args := [d1, d2, d3] }
  | _ => none }
def NatRingWrongFalsely : Prop := natRingRow.holds Try.pinned (OpenSpec.ofChange natRingWrong)

/-- 'foliotlaw01.NatSums': WHATEVER THE INPUT: true; the input reads as it did. -/
def natSumsSpec : ChangeSpec := { name := "natSums", fn := fun _ => fun
  | [d1, d2] => { results := [.lit (.bool true)], args := [d1, d2] }
  | _ => none }
def natSumsRow : OpenClaim := { program := "ytaclkccgjpjdjaa", sum := "f776ed3f1766dbf272320627a7dfc4c5affec4345b688a2f6386582ba68eb9e5", func := "foliot/foliotlaw01.NatSums", spec := "natSums", unfollowed := true, recurses := true, apart := false }
def NatSumsSaid : Prop := natSumsRow.holds Try.pinned (OpenSpec.ofChange natSumsSpec)

/-- ITS FALSE NEIGHBOUR: 'it returns false'. Refute it at one input. -/
def natSumsWrong : ChangeSpec := { name := "natSums", fn := fun _ => fun
  | [d1, d2] => { results := [.lit (.bool false)], args := [d1, d2] }
  | _ => none }
def NatSumsWrongFalsely : Prop := natSumsRow.holds Try.pinned (OpenSpec.ofChange natSumsWrong)

/-- 'foliotlaw02.IntegerDivides': WHATEVER THE INPUT: true; the input reads as it did. -/
def integerDividesSpec : ChangeSpec := { name := "integerDivides", fn := fun _ => fun
  | [d1, d2] => { results := [.lit (.bool true)], args := [d1, d2] }
  | _ => none }
def integerDividesRow : OpenClaim := { program := "ytaclkccgjpjdjaa", sum := "f776ed3f1766dbf272320627a7dfc4c5affec4345b688a2f6386582ba68eb9e5", func := "foliot/foliotlaw02.IntegerDivides", spec := "integerDivides", unfollowed := true, recurses := true, apart := false }
def IntegerDividesSaid : Prop := integerDividesRow.holds Try.pinned (OpenSpec.ofChange integerDividesSpec)

/-- ITS FALSE NEIGHBOUR: 'it returns false'. Refute it at one input. -/
def integerDividesWrong : ChangeSpec := { name := "integerDivides", fn := fun _ => fun
  | [d1, d2] => { results := [.lit (.bool false)], args := [d1, d2] }
  | _ => none }
def IntegerDividesWrongFalsely : Prop := integerDividesRow.holds Try.pinned (OpenSpec.ofChange integerDividesWrong)

/-- 'foliotlaw02.IntegerTexts': WHATEVER THE INPUT: true; the input reads as it did. -/
def integerTextsSpec : ChangeSpec := { name := "integerTexts", fn := fun _ => fun
  | [d1, d2] => { results := [.lit (.bool true)], args := [d1, d2] }
  | _ => none }
def integerTextsRow : OpenClaim := { program := "ytaclkccgjpjdjaa", sum := "f776ed3f1766dbf272320627a7dfc4c5affec4345b688a2f6386582ba68eb9e5", func := "foliot/foliotlaw02.IntegerTexts", spec := "integerTexts", unfollowed := true, recurses := true, apart := false }
def IntegerTextsSaid : Prop := integerTextsRow.holds Try.pinned (OpenSpec.ofChange integerTextsSpec)

/-- ITS FALSE NEIGHBOUR: 'it returns false'. Refute it at one input. -/
def integerTextsWrong : ChangeSpec := { name := "integerTexts", fn := fun _ => fun
  | [d1, d2] => { results := [.lit (.bool false)], args := [d1, d2] }
  | _ => none }
def IntegerTextsWrongFalsely : Prop := integerTextsRow.holds Try.pinned (OpenSpec.ofChange integerTextsWrong)

/-- 'foliotlaw02.IntegerRing': WHATEVER THE INPUT: true; the input reads as it did. -/
def integerRingSpec : ChangeSpec := { name := "integerRing", fn := fun _ => fun
  | [d1, d2, d3] => { results := [.lit (.bool true)], args := [d1, d2, d3] }
  | _ => none }
def integerRingRow : OpenClaim := { program := "ytaclkccgjpjdjaa", sum := "f776ed3f1766dbf272320627a7dfc4c5affec4345b688a2f6386582ba68eb9e5", func := "foliot/foliotlaw02.IntegerRing", spec := "integerRing", unfollowed := true, recurses := true, apart := false }
def IntegerRingSaid : Prop := integerRingRow.holds Try.pinned (OpenSpec.ofChange integerRingSpec)

/-- ITS FALSE NEIGHBOUR: 'it returns false'. Refute it at one input. -/
def integerRingWrong : ChangeSpec := { name := "integerRing", fn := fun _ => fun
  | [d1, d2, d3] => { results := [.lit (.bool false)], args := [d1, d2, d3] }
  | _ => none }
def IntegerRingWrongFalsely : Prop := integerRingRow.holds Try.pinned (OpenSpec.ofChange integerRingWrong)

/-- 'foliotlaw02.IntegerSmall': WHATEVER THE INPUT: true; the input reads as it did. -/
def integerSmallSpec : ChangeSpec := { name := "integerSmall", fn := fun _ => fun
  | [d1, d2] => { results := [.lit (.bool true)], args := [d1, d2] }
  | _ => none }
def integerSmallRow : OpenClaim := { program := "ytaclkccgjpjdjaa", sum := "f776ed3f1766dbf272320627a7dfc4c5affec4345b688a2f6386582ba68eb9e5", func := "foliot/foliotlaw02.IntegerSmall", spec := "integerSmall", unfollowed := true, recurses := true, apart := false }
def IntegerSmallSaid : Prop := integerSmallRow.holds Try.pinned (OpenSpec.ofChange integerSmallSpec)

/-- ITS FALSE NEIGHBOUR: 'it returns false'. Refute it at one input. -/
def integerSmallWrong : ChangeSpec := { name := "integerSmall", fn := fun _ => fun
  | [d1, d2] => { results := [.lit (.bool false)], args := [d1, d2] }
  | _ => none }
def IntegerSmallWrongFalsely : Prop := integerSmallRow.holds Try.pinned (OpenSpec.ofChange integerSmallWrong)

/-- 'foliotlaw02.IntegerRest': WHATEVER THE INPUT: true; the input reads as it did. -/
def integerRestSpec : ChangeSpec := { name := "integerRest", fn := fun _ => fun
  | [d1, d2] => { results := [.lit (.bool true)], args := [d1, d2] }
  | _ => none }
def integerRestRow : OpenClaim := { program := "ytaclkccgjpjdjaa", sum := "f776ed3f1766dbf272320627a7dfc4c5affec4345b688a2f6386582ba68eb9e5", func := "foliot/foliotlaw02.IntegerRest", spec := "integerRest", unfollowed := true, recurses := true, apart := false }
def IntegerRestSaid : Prop := integerRestRow.holds Try.pinned (OpenSpec.ofChange integerRestSpec)

/-- ITS FALSE NEIGHBOUR: 'it returns false'. Refute it at one input. -/
def integerRestWrong : ChangeSpec := { name := "integerRest", fn := fun _ => fun
  | [d1, d2] => { results := [.lit (.bool false)], args := [d1, d2] }
  | _ => none }
def IntegerRestWrongFalsely : Prop := integerRestRow.holds Try.pinned (OpenSpec.ofChange integerRestWrong)

/-- 'foliotlaw02.IntegerOrder': WHATEVER THE INPUT: true; the input reads as it did. -/
def integerOrderSpec : ChangeSpec := { name := "integerOrder", fn := fun _ => fun
  | [d1, d2, d3] => { results := [.lit (.bool true)], args := [d1, d2, d3] }
  | _ => none }
def integerOrderRow : OpenClaim := { program := "ytaclkccgjpjdjaa", sum := "f776ed3f1766dbf272320627a7dfc4c5affec4345b688a2f6386582ba68eb9e5", func := "foliot/foliotlaw02.IntegerOrder", spec := "integerOrder", unfollowed := true, recurses := true, apart := false }
def IntegerOrderSaid : Prop := integerOrderRow.holds Try.pinned (OpenSpec.ofChange integerOrderSpec)

/-- ITS FALSE NEIGHBOUR: 'it returns false'. Refute it at one input. -/
def integerOrderWrong : ChangeSpec := { name := "integerOrder", fn := fun _ => fun
  | [d1, d2, d3] => { results := [.lit (.bool false)], args := [d1, d2, d3] }
  | _ => none }
def IntegerOrderWrongFalsely : Prop := integerOrderRow.holds Try.pinned (OpenSpec.ofChange integerOrderWrong)

/-- 'foliotlaw02.IntegerSums': WHATEVER THE INPUT: true; the input reads as it did. -/
def integerSumsSpec : ChangeSpec := { name := "integerSums", fn := fun _ => fun
  | [d1, d2] => { results := [.lit (.bool true)], args := [d1, d2] }
  | _ => none }
def integerSumsRow : OpenClaim := { program := "ytaclkccgjpjdjaa", sum := "f776ed3f1766dbf272320627a7dfc4c5affec4345b688a2f6386582ba68eb9e5", func := "foliot/foliotlaw02.IntegerSums", spec := "integerSums", unfollowed := true, recurses := true, apart := false }
def IntegerSumsSaid : Prop := integerSumsRow.holds Try.pinned (OpenSpec.ofChange integerSumsSpec)

/-- ITS FALSE NEIGHBOUR: 'it returns false'. Refute it at one input. -/
def integerSumsWrong : ChangeSpec := { name := "integerSums", fn := fun _ => fun
  | [d1, d2] => { results := [.lit (.bool false)], args := [d1, d2] }
  | _ => none }
def IntegerSumsWrongFalsely : Prop := integerSumsRow.holds Try.pinned (OpenSpec.ofChange integerSumsWrong)

/-- 'foliotlaw18.SolveTells': WHATEVER THE INPUT: true; the input reads as it did. -/
def solveTellsSpec : ChangeSpec := { name := "solveTells", fn := fun _ => fun
  | [d1, d2] => { results := [.lit (.bool true)], args := [d1, d2] }
  | _ => none }
def solveTellsRow : OpenClaim := { program := "ytaclkccgjpjdjaa", sum := "f776ed3f1766dbf272320627a7dfc4c5affec4345b688a2f6386582ba68eb9e5", func := "foliot/foliotlaw18.SolveTells", spec := "solveTells", unfollowed := true, recurses := true, apart := false }
def SolveTellsSaid : Prop := solveTellsRow.holds Try.pinned (OpenSpec.ofChange solveTellsSpec)

/-- ITS FALSE NEIGHBOUR: 'it returns false'. Refute it at one input. -/
def solveTellsWrong : ChangeSpec := { name := "solveTells", fn := fun _ => fun
  | [d1, d2] => { results := [.lit (.bool false)], args := [d1, d2] }
  | _ => none }
def SolveTellsWrongFalsely : Prop := solveTellsRow.holds Try.pinned (OpenSpec.ofChange solveTellsWrong)

/-- 'foliotlaw18.SolveExact': WHATEVER THE INPUT: true; the input reads as it did. -/
def solveExactSpec : ChangeSpec := { name := "solveExact", fn := fun _ => fun
  | [d1, d2] => { results := [.lit (.bool true)], args := [d1, d2] }
  | _ => none }
def solveExactRow : OpenClaim := { program := "ytaclkccgjpjdjaa", sum := "f776ed3f1766dbf272320627a7dfc4c5affec4345b688a2f6386582ba68eb9e5", func := "foliot/foliotlaw18.SolveExact", spec := "solveExact", unfollowed := true, recurses := true, apart := false }
def SolveExactSaid : Prop := solveExactRow.holds Try.pinned (OpenSpec.ofChange solveExactSpec)

/-- ITS FALSE NEIGHBOUR: 'it returns false'. Refute it at one input. -/
def solveExactWrong : ChangeSpec := { name := "solveExact", fn := fun _ => fun
  | [d1, d2] => { results := [.lit (.bool false)], args := [d1, d2] }
  | _ => none }
def SolveExactWrongFalsely : Prop := solveExactRow.holds Try.pinned (OpenSpec.ofChange solveExactWrong)

/-- 'foliotlaw18.SolveFirst': WHATEVER THE INPUT: true; the input reads as it did. -/
def solveFirstSpec : ChangeSpec := { name := "solveFirst", fn := fun _ => fun
  | [d] => { results := [.lit (.bool true)], args := [d] }
  | _ => none }
def solveFirstRow : OpenClaim := { program := "ytaclkccgjpjdjaa", sum := "f776ed3f1766dbf272320627a7dfc4c5affec4345b688a2f6386582ba68eb9e5", func := "foliot/foliotlaw18.SolveFirst", spec := "solveFirst", unfollowed := true, recurses := true, apart := false }
def SolveFirstSaid : Prop := solveFirstRow.holds Try.pinned (OpenSpec.ofChange solveFirstSpec)

/-- ITS FALSE NEIGHBOUR: 'it returns false'. Refute it at one input. -/
def solveFirstWrong : ChangeSpec := { name := "solveFirst", fn := fun _ => fun
  | [d] => { results := [.lit (.bool false)], args := [d] }
  | _ => none }
def SolveFirstWrongFalsely : Prop := solveFirstRow.holds Try.pinned (OpenSpec.ofChange solveFirstWrong)

/-- 'foliotlaw18.SolveTwice': WHATEVER THE INPUT: true; the input reads as it did. -/
def solveTwiceSpec : ChangeSpec := { name := "solveTwice", fn := fun _ => fun
  | [d1, d2] => { results := [.lit (.bool true)], args := [d1, d2] }
  | _ => none }
def solveTwiceRow : OpenClaim := { program := "ytaclkccgjpjdjaa", sum := "f776ed3f1766dbf272320627a7dfc4c5affec4345b688a2f6386582ba68eb9e5", func := "foliot/foliotlaw18.SolveTwice", spec := "solveTwice", unfollowed := true, recurses := true, apart := false }
def SolveTwiceSaid : Prop := solveTwiceRow.holds Try.pinned (OpenSpec.ofChange solveTwiceSpec)

/-- ITS FALSE NEIGHBOUR: 'it returns false'. Refute it at one input. -/
def solveTwiceWrong : ChangeSpec := { name := "solveTwice", fn := fun _ => fun
  | [d1, d2] => { results := [.lit (.bool false)], args := [d1, d2] }
  | _ => none }
def SolveTwiceWrongFalsely : Prop := solveTwiceRow.holds Try.pinned (OpenSpec.ofChange solveTwiceWrong)

/-- 'foliotlaw27.SpecDual': WHATEVER THE INPUT: true; the input reads as it did. -/
def specDualSpec : ChangeSpec := { name := "specDual", fn := fun _ => fun
  | [d1, d2, d3] => { results := [.lit (.bool true)], args := [d1, d2, d3] }
  | _ => none }
def specDualRow : OpenClaim := { program := "ytaclkccgjpjdjaa", sum := "f776ed3f1766dbf272320627a7dfc4c5affec4345b688a2f6386582ba68eb9e5", func := "foliot/foliotlaw27.SpecDual", spec := "specDual", unfollowed := true, recurses := true, loops := true, apart := false }
def SpecDualSaid : Prop := specDualRow.holds Try.pinned (OpenSpec.ofChange specDualSpec)

/-- ITS FALSE NEIGHBOUR: 'it returns false'. Refute it at one input. -/
def specDualWrong : ChangeSpec := { name := "specDual", fn := fun _ => fun
  | [d1, d2, d3] => { results := [.lit (.bool false)], args := [d1, d2, d3] }
  | _ => none }
def SpecDualWrongFalsely : Prop := specDualRow.holds Try.pinned (OpenSpec.ofChange specDualWrong)

/-- 'foliotlaw27.SpecSince': WHATEVER THE INPUT: true; the input reads as it did. -/
def specSinceSpec : ChangeSpec := { name := "specSince", fn := fun _ => fun
  | [d1, d2, d3] => { results := [.lit (.bool true)], args := [d1, d2, d3] }
  | _ => none }
def specSinceRow : OpenClaim := { program := "ytaclkccgjpjdjaa", sum := "f776ed3f1766dbf272320627a7dfc4c5affec4345b688a2f6386582ba68eb9e5", func := "foliot/foliotlaw27.SpecSince", spec := "specSince", unfollowed := true, recurses := true, loops := true, apart := false }
def SpecSinceSaid : Prop := specSinceRow.holds Try.pinned (OpenSpec.ofChange specSinceSpec)

/-- ITS FALSE NEIGHBOUR: 'it returns false'. Refute it at one input. -/
def specSinceWrong : ChangeSpec := { name := "specSince", fn := fun _ => fun
  | [d1, d2, d3] => { results := [.lit (.bool false)], args := [d1, d2, d3] }
  | _ => none }
def SpecSinceWrongFalsely : Prop := specSinceRow.holds Try.pinned (OpenSpec.ofChange specSinceWrong)

/-- 'foliotlaw27.SpecNone': WHATEVER THE INPUT: true; the input reads as it did. -/
def specNoneSpec : ChangeSpec := { name := "specNone", fn := fun _ => fun
  | [d1, d2] => { results := [.lit (.bool true)], args := [d1, d2] }
  | _ => none }
def specNoneRow : OpenClaim := { program := "ytaclkccgjpjdjaa", sum := "f776ed3f1766dbf272320627a7dfc4c5affec4345b688a2f6386582ba68eb9e5", func := "foliot/foliotlaw27.SpecNone", spec := "specNone", unfollowed := true, recurses := true, loops := true, apart := false }
def SpecNoneSaid : Prop := specNoneRow.holds Try.pinned (OpenSpec.ofChange specNoneSpec)

/-- ITS FALSE NEIGHBOUR: 'it returns false'. Refute it at one input. -/
def specNoneWrong : ChangeSpec := { name := "specNone", fn := fun _ => fun
  | [d1, d2] => { results := [.lit (.bool false)], args := [d1, d2] }
  | _ => none }
def SpecNoneWrongFalsely : Prop := specNoneRow.holds Try.pinned (OpenSpec.ofChange specNoneWrong)

/-- 'foliotlaw03.RatioTexts': WHATEVER THE INPUT: true; the input reads as it did. -/
def ratioTextsSpec : ChangeSpec := { name := "ratioTexts", fn := fun _ => fun
  | [d1, d2, d3] => { results := [.lit (.bool true)], args := [d1, d2, d3] }
  | _ => none }
def ratioTextsRow : OpenClaim := { program := "ytaclkccgjpjdjaa", sum := "f776ed3f1766dbf272320627a7dfc4c5affec4345b688a2f6386582ba68eb9e5", func := "foliot/foliotlaw03.RatioTexts", spec := "ratioTexts", inPlace := ["internal/bytealg.IndexByteString", "internal/bytealg.IndexString"], unfollowed := true, recurses := true, named := ["internal/bytealg.MaxLen"], apart := false }
def RatioTextsSaid : Prop := ratioTextsRow.holds Try.pinned (OpenSpec.ofChange ratioTextsSpec)

/-- ITS FALSE NEIGHBOUR: 'it returns false'. Refute it at one input. -/
def ratioTextsWrong : ChangeSpec := { name := "ratioTexts", fn := fun _ => fun
  | [d1, d2, d3] => { results := [.lit (.bool false)], args := [d1, d2, d3] }
  | _ => none }
def RatioTextsWrongFalsely : Prop := ratioTextsRow.holds Try.pinned (OpenSpec.ofChange ratioTextsWrong)

/-- 'foliotlaw03.RatioParts': WHATEVER THE INPUT: true; the input reads as it did. -/
def ratioPartsSpec : ChangeSpec := { name := "ratioParts", fn := fun _ => fun
  | [d1, d2, d3] => { results := [.lit (.bool true)], args := [d1, d2, d3] }
  | _ => none }
def ratioPartsRow : OpenClaim := { program := "ytaclkccgjpjdjaa", sum := "f776ed3f1766dbf272320627a7dfc4c5affec4345b688a2f6386582ba68eb9e5", func := "foliot/foliotlaw03.RatioParts", spec := "ratioParts", inPlace := ["internal/bytealg.IndexByteString", "internal/bytealg.IndexString"], unfollowed := true, recurses := true, named := ["internal/bytealg.MaxLen"], apart := false }
def RatioPartsSaid : Prop := ratioPartsRow.holds Try.pinned (OpenSpec.ofChange ratioPartsSpec)

/-- ITS FALSE NEIGHBOUR: 'it returns false'. Refute it at one input. -/
def ratioPartsWrong : ChangeSpec := { name := "ratioParts", fn := fun _ => fun
  | [d1, d2, d3] => { results := [.lit (.bool false)], args := [d1, d2, d3] }
  | _ => none }
def RatioPartsWrongFalsely : Prop := ratioPartsRow.holds Try.pinned (OpenSpec.ofChange ratioPartsWrong)

/-- 'foliotlaw03.RatioOne': WHATEVER THE INPUT: true; the input reads as it did. -/
def ratioOneSpec : ChangeSpec := { name := "ratioOne", fn := fun _ => fun
  | [d1, d2] => { results := [.lit (.bool true)], args := [d1, d2] }
  | _ => none }
def ratioOneRow : OpenClaim := { program := "ytaclkccgjpjdjaa", sum := "f776ed3f1766dbf272320627a7dfc4c5affec4345b688a2f6386582ba68eb9e5", func := "foliot/foliotlaw03.RatioOne", spec := "ratioOne", inPlace := ["internal/bytealg.IndexByteString", "internal/bytealg.IndexString"], unfollowed := true, recurses := true, named := ["internal/bytealg.MaxLen"], apart := false }
def RatioOneSaid : Prop := ratioOneRow.holds Try.pinned (OpenSpec.ofChange ratioOneSpec)

/-- ITS FALSE NEIGHBOUR: 'it returns false'. Refute it at one input. -/
def ratioOneWrong : ChangeSpec := { name := "ratioOne", fn := fun _ => fun
  | [d1, d2] => { results := [.lit (.bool false)], args := [d1, d2] }
  | _ => none }
def RatioOneWrongFalsely : Prop := ratioOneRow.holds Try.pinned (OpenSpec.ofChange ratioOneWrong)

/-- 'foliotlaw03.RatioBack': WHATEVER THE INPUT: true; the input reads as it did. -/
def ratioBackSpec : ChangeSpec := { name := "ratioBack", fn := fun _ => fun
  | [d] => { results := [.lit (.bool true)], args := [d] }
  | _ => none }
def ratioBackRow : OpenClaim := { program := "ytaclkccgjpjdjaa", sum := "f776ed3f1766dbf272320627a7dfc4c5affec4345b688a2f6386582ba68eb9e5", func := "foliot/foliotlaw03.RatioBack", spec := "ratioBack", inPlace := ["internal/bytealg.IndexByteString", "internal/bytealg.IndexString"], unfollowed := true, recurses := true, named := ["internal/bytealg.MaxLen"], apart := false }
def RatioBackSaid : Prop := ratioBackRow.holds Try.pinned (OpenSpec.ofChange ratioBackSpec)

/-- ITS FALSE NEIGHBOUR: 'it returns false'. Refute it at one input. -/
def ratioBackWrong : ChangeSpec := { name := "ratioBack", fn := fun _ => fun
  | [d] => { results := [.lit (.bool false)], args := [d] }
  | _ => none }
def RatioBackWrongFalsely : Prop := ratioBackRow.holds Try.pinned (OpenSpec.ofChange ratioBackWrong)

/-- 'foliotlaw03.RatioField': WHATEVER THE INPUT: true; the input reads as it did. -/
def ratioFieldSpec : ChangeSpec := { name := "ratioField", fn := fun _ => fun
  | [d1, d2, d3] => { results := [.lit (.bool true)], args := [d1, d2, d3] }
  | _ => none }
def ratioFieldRow : OpenClaim := { program := "ytaclkccgjpjdjaa", sum := "f776ed3f1766dbf272320627a7dfc4c5affec4345b688a2f6386582ba68eb9e5", func := "foliot/foliotlaw03.RatioField", spec := "ratioField", inPlace := ["internal/bytealg.IndexByteString", "internal/bytealg.IndexString"], unfollowed := true, recurses := true, named := ["internal/bytealg.MaxLen"], apart := false }
def RatioFieldSaid : Prop := ratioFieldRow.holds Try.pinned (OpenSpec.ofChange ratioFieldSpec)

/-- ITS FALSE NEIGHBOUR: 'it returns false'. Refute it at one input. -/
def ratioFieldWrong : ChangeSpec := { name := "ratioField", fn := fun _ => fun
  | [d1, d2, d3] => { results := [.lit (.bool false)], args := [d1, d2, d3] }
  | _ => none }
def RatioFieldWrongFalsely : Prop := ratioFieldRow.holds Try.pinned (OpenSpec.ofChange ratioFieldWrong)

/-- 'foliotlaw03.RatioOrder': WHATEVER THE INPUT: true; the input reads as it did. -/
def ratioOrderSpec : ChangeSpec := { name := "ratioOrder", fn := fun _ => fun
  | [d1, d2, d3] => { results := [.lit (.bool true)], args := [d1, d2, d3] }
  | _ => none }
def ratioOrderRow : OpenClaim := { program := "ytaclkccgjpjdjaa", sum := "f776ed3f1766dbf272320627a7dfc4c5affec4345b688a2f6386582ba68eb9e5", func := "foliot/foliotlaw03.RatioOrder", spec := "ratioOrder", inPlace := ["internal/bytealg.IndexByteString", "internal/bytealg.IndexString"], unfollowed := true, recurses := true, named := ["internal/bytealg.MaxLen"], apart := false }
def RatioOrderSaid : Prop := ratioOrderRow.holds Try.pinned (OpenSpec.ofChange ratioOrderSpec)

/-- ITS FALSE NEIGHBOUR: 'it returns false'. Refute it at one input. -/
def ratioOrderWrong : ChangeSpec := { name := "ratioOrder", fn := fun _ => fun
  | [d1, d2, d3] => { results := [.lit (.bool false)], args := [d1, d2, d3] }
  | _ => none }
def RatioOrderWrongFalsely : Prop := ratioOrderRow.holds Try.pinned (OpenSpec.ofChange ratioOrderWrong)

/- THE SECOND FORM. 'bulk': how many values and letters a reading holds, each counted each time it is reached (what is shared counts as often as it is met; a slice's spare places count too). A statement '..UptoSaid' is the law's where the arguments, and the package variables that the reading takes, are together of bulk at most 1048576: NARROWER than '..Said'. Prove '..Said' where nothing that the law and all that it calls make is longer than what came in: it says more and counts as full. Else prove '..UptoSaid'. A law counts once. -/
mutual
def uptoBulk {H : Type} : DataW H → Nat
  | .lit (.string bytes) => bytes.length + 1
  | .lit _ => 1
  | .nil => 1
  | .ptr d => uptoBulk d + 1
  | .slice elems spare => uptoBulkAll elems + uptoBulkAll spare + 1
  | .agg parts => uptoBulkAll parts + 1
  | .iface _ d => uptoBulk d + 1
  | .map entries => uptoBulkEntries entries + 1
  | .held _ => 1
def uptoBulkAll {H : Type} : List (DataW H) → Nat
  | [] => 0
  | d :: r => uptoBulk d + uptoBulkAll r
def uptoBulkEntries {H : Type} : List (Lit × DataW H) → Nat
  | [] => 0
  | x :: r => uptoBulkEntry x + uptoBulkEntries r
def uptoBulkEntry {H : Type} : Lit × DataW H → Nat
  | (.string bytes, d) => bytes.length + uptoBulk d + 1
  | (_, d) => uptoBulk d + 1
 end
def uptoSmall : (H : Type) → List (DataW H) → Bool := fun _ ds => decide (uptoBulkAll ds ≤ 1048576)
def OpenSpec.upto (s : _root_.Go.ChangeSpec) : _root_.Go.OpenSpec := { _root_.Go.OpenSpec.ofChange s with cond := some uptoSmall }

/-- 'foliotlaw01.NatDivides', WHERE WHAT IT READS IS OF BULK AT MOST 1048576: true; the input reads as it did. -/
def natDividesUptoRow : OpenClaim := { program := "ytaclkccgjpjdjaa", sum := "f776ed3f1766dbf272320627a7dfc4c5affec4345b688a2f6386582ba68eb9e5", func := "foliot/foliotlaw01.NatDivides", spec := "natDivides", unfollowed := true, recurses := true, apart := false, narrowed := true }
def NatDividesUptoSaid : Prop := natDividesUptoRow.holds Try.pinned (OpenSpec.upto natDividesSpec)

/-- 'foliotlaw01.NatTexts', WHERE WHAT IT READS IS OF BULK AT MOST 1048576: true; the input reads as it did. -/
def natTextsUptoRow : OpenClaim := { program := "ytaclkccgjpjdjaa", sum := "f776ed3f1766dbf272320627a7dfc4c5affec4345b688a2f6386582ba68eb9e5", func := "foliot/foliotlaw01.NatTexts", spec := "natTexts", unfollowed := true, recurses := true, apart := false, narrowed := true }
def NatTextsUptoSaid : Prop := natTextsUptoRow.holds Try.pinned (OpenSpec.upto natTextsSpec)

/-- 'foliotlaw01.NatRest', WHERE WHAT IT READS IS OF BULK AT MOST 1048576: true; the input reads as it did. -/
def natRestUptoRow : OpenClaim := { program := "ytaclkccgjpjdjaa", sum := "f776ed3f1766dbf272320627a7dfc4c5affec4345b688a2f6386582ba68eb9e5", func := "foliot/foliotlaw01.NatRest", spec := "natRest", unfollowed := true, recurses := true, apart := false, narrowed := true }
def NatRestUptoSaid : Prop := natRestUptoRow.holds Try.pinned (OpenSpec.upto natRestSpec)

/-- 'foliotlaw01.NatShares', WHERE WHAT IT READS IS OF BULK AT MOST 1048576: true; the input reads as it did. -/
def natSharesUptoRow : OpenClaim := { program := "ytaclkccgjpjdjaa", sum := "f776ed3f1766dbf272320627a7dfc4c5affec4345b688a2f6386582ba68eb9e5", func := "foliot/foliotlaw01.NatShares", spec := "natShares", unfollowed := true, recurses := true, apart := false, narrowed := true }
def NatSharesUptoSaid : Prop := natSharesUptoRow.holds Try.pinned (OpenSpec.upto natSharesSpec)

/-- 'foliotlaw01.NatBack', WHERE WHAT IT READS IS OF BULK AT MOST 1048576: true; the input reads as it did. -/
def natBackUptoRow : OpenClaim := { program := "ytaclkccgjpjdjaa", sum := "f776ed3f1766dbf272320627a7dfc4c5affec4345b688a2f6386582ba68eb9e5", func := "foliot/foliotlaw01.NatBack", spec := "natBack", unfollowed := true, recurses := true, apart := false, narrowed := true }
def NatBackUptoSaid : Prop := natBackUptoRow.holds Try.pinned (OpenSpec.upto natBackSpec)

/-- 'foliotlaw01.NatRing', WHERE WHAT IT READS IS OF BULK AT MOST 1048576: true; the input reads as it did. -/
def natRingUptoRow : OpenClaim := { program := "ytaclkccgjpjdjaa", sum := "f776ed3f1766dbf272320627a7dfc4c5affec4345b688a2f6386582ba68eb9e5", func := "foliot/foliotlaw01.NatRing", spec := "natRing", unfollowed := true, recurses := true, apart := false, narrowed := true }
def NatRingUptoSaid : Prop := natRingUptoRow.holds Try.pinned (OpenSpec.upto natRingSpec)

/-- 'foliotlaw01.NatSums', WHERE WHAT IT READS IS OF BULK AT MOST 1048576: true; the input reads as it did. -/
def natSumsUptoRow : OpenClaim := { program := "ytaclkccgjpjdjaa", sum := "f776ed3f1766dbf272320627a7dfc4c5affec4345b688a2f6386582ba68eb9e5", func := "foliot/foliotlaw01.NatSums", spec := "natSums", unfollowed := true, recurses := true, apart := false, narrowed := true }
def NatSumsUptoSaid : Prop := natSumsUptoRow.holds Try.pinned (OpenSpec.upto natSumsSpec)

/-- 'foliotlaw02.IntegerDivides', WHERE WHAT IT READS IS OF BULK AT MOST 1048576: true; the input reads as it did. -/
def integerDividesUptoRow : OpenClaim := { program := "ytaclkccgjpjdjaa", sum := "f776ed3f1766dbf272320627a7dfc4c5affec4345b688a2f6386582ba68eb9e5", func := "foliot/foliotlaw02.IntegerDivides", spec := "integerDivides", unfollowed := true, recurses := true, apart := false, narrowed := true }
def IntegerDividesUptoSaid : Prop := integerDividesUptoRow.holds Try.pinned (OpenSpec.upto integerDividesSpec)

/-- 'foliotlaw02.IntegerTexts', WHERE WHAT IT READS IS OF BULK AT MOST 1048576: true; the input reads as it did. -/
def integerTextsUptoRow : OpenClaim := { program := "ytaclkccgjpjdjaa", sum := "f776ed3f1766dbf272320627a7dfc4c5affec4345b688a2f6386582ba68eb9e5", func := "foliot/foliotlaw02.IntegerTexts", spec := "integerTexts", unfollowed := true, recurses := true, apart := false, narrowed := true }
def IntegerTextsUptoSaid : Prop := integerTextsUptoRow.holds Try.pinned (OpenSpec.upto integerTextsSpec)

/-- 'foliotlaw02.IntegerRing', WHERE WHAT IT READS IS OF BULK AT MOST 1048576: true; the input reads as it did. -/
def integerRingUptoRow : OpenClaim := { program := "ytaclkccgjpjdjaa", sum := "f776ed3f1766dbf272320627a7dfc4c5affec4345b688a2f6386582ba68eb9e5", func := "foliot/foliotlaw02.IntegerRing", spec := "integerRing", unfollowed := true, recurses := true, apart := false, narrowed := true }
def IntegerRingUptoSaid : Prop := integerRingUptoRow.holds Try.pinned (OpenSpec.upto integerRingSpec)

/-- 'foliotlaw02.IntegerSmall', WHERE WHAT IT READS IS OF BULK AT MOST 1048576: true; the input reads as it did. -/
def integerSmallUptoRow : OpenClaim := { program := "ytaclkccgjpjdjaa", sum := "f776ed3f1766dbf272320627a7dfc4c5affec4345b688a2f6386582ba68eb9e5", func := "foliot/foliotlaw02.IntegerSmall", spec := "integerSmall", unfollowed := true, recurses := true, apart := false, narrowed := true }
def IntegerSmallUptoSaid : Prop := integerSmallUptoRow.holds Try.pinned (OpenSpec.upto integerSmallSpec)

/-- 'foliotlaw02.IntegerRest', WHERE WHAT IT READS IS OF BULK AT MOST 1048576: true; the input reads as it did. -/
def integerRestUptoRow : OpenClaim := { program := "ytaclkccgjpjdjaa", sum := "f776ed3f1766dbf272320627a7dfc4c5affec4345b688a2f6386582ba68eb9e5", func := "foliot/foliotlaw02.IntegerRest", spec := "integerRest", unfollowed := true, recurses := true, apart := false, narrowed := true }
def IntegerRestUptoSaid : Prop := integerRestUptoRow.holds Try.pinned (OpenSpec.upto integerRestSpec)

/-- 'foliotlaw02.IntegerOrder', WHERE WHAT IT READS IS OF BULK AT MOST 1048576: true; the input reads as it did. -/
def integerOrderUptoRow : OpenClaim := { program := "ytaclkccgjpjdjaa", sum := "f776ed3f1766dbf272320627a7dfc4c5affec4345b688a2f6386582ba68eb9e5", func := "foliot/foliotlaw02.IntegerOrder", spec := "integerOrder", unfollowed := true, recurses := true, apart := false, narrowed := true }
def IntegerOrderUptoSaid : Prop := integerOrderUptoRow.holds Try.pinned (OpenSpec.upto integerOrderSpec)

/-- 'foliotlaw02.IntegerSums', WHERE WHAT IT READS IS OF BULK AT MOST 1048576: true; the input reads as it did. -/
def integerSumsUptoRow : OpenClaim := { program := "ytaclkccgjpjdjaa", sum := "f776ed3f1766dbf272320627a7dfc4c5affec4345b688a2f6386582ba68eb9e5", func := "foliot/foliotlaw02.IntegerSums", spec := "integerSums", unfollowed := true, recurses := true, apart := false, narrowed := true }
def IntegerSumsUptoSaid : Prop := integerSumsUptoRow.holds Try.pinned (OpenSpec.upto integerSumsSpec)

/-- 'foliotlaw18.SolveTells', WHERE WHAT IT READS IS OF BULK AT MOST 1048576: true; the input reads as it did. -/
def solveTellsUptoRow : OpenClaim := { program := "ytaclkccgjpjdjaa", sum := "f776ed3f1766dbf272320627a7dfc4c5affec4345b688a2f6386582ba68eb9e5", func := "foliot/foliotlaw18.SolveTells", spec := "solveTells", unfollowed := true, recurses := true, apart := false, narrowed := true }
def SolveTellsUptoSaid : Prop := solveTellsUptoRow.holds Try.pinned (OpenSpec.upto solveTellsSpec)

/-- 'foliotlaw18.SolveExact', WHERE WHAT IT READS IS OF BULK AT MOST 1048576: true; the input reads as it did. -/
def solveExactUptoRow : OpenClaim := { program := "ytaclkccgjpjdjaa", sum := "f776ed3f1766dbf272320627a7dfc4c5affec4345b688a2f6386582ba68eb9e5", func := "foliot/foliotlaw18.SolveExact", spec := "solveExact", unfollowed := true, recurses := true, apart := false, narrowed := true }
def SolveExactUptoSaid : Prop := solveExactUptoRow.holds Try.pinned (OpenSpec.upto solveExactSpec)

/-- 'foliotlaw18.SolveFirst', WHERE WHAT IT READS IS OF BULK AT MOST 1048576: true; the input reads as it did. -/
def solveFirstUptoRow : OpenClaim := { program := "ytaclkccgjpjdjaa", sum := "f776ed3f1766dbf272320627a7dfc4c5affec4345b688a2f6386582ba68eb9e5", func := "foliot/foliotlaw18.SolveFirst", spec := "solveFirst", unfollowed := true, recurses := true, apart := false, narrowed := true }
def SolveFirstUptoSaid : Prop := solveFirstUptoRow.holds Try.pinned (OpenSpec.upto solveFirstSpec)

/-- 'foliotlaw18.SolveTwice', WHERE WHAT IT READS IS OF BULK AT MOST 1048576: true; the input reads as it did. -/
def solveTwiceUptoRow : OpenClaim := { program := "ytaclkccgjpjdjaa", sum := "f776ed3f1766dbf272320627a7dfc4c5affec4345b688a2f6386582ba68eb9e5", func := "foliot/foliotlaw18.SolveTwice", spec := "solveTwice", unfollowed := true, recurses := true, apart := false, narrowed := true }
def SolveTwiceUptoSaid : Prop := solveTwiceUptoRow.holds Try.pinned (OpenSpec.upto solveTwiceSpec)

/-- 'foliotlaw27.SpecDual', WHERE WHAT IT READS IS OF BULK AT MOST 1048576: true; the input reads as it did. -/
def specDualUptoRow : OpenClaim := { program := "ytaclkccgjpjdjaa", sum := "f776ed3f1766dbf272320627a7dfc4c5affec4345b688a2f6386582ba68eb9e5", func := "foliot/foliotlaw27.SpecDual", spec := "specDual", unfollowed := true, recurses := true, loops := true, apart := false, narrowed := true }
def SpecDualUptoSaid : Prop := specDualUptoRow.holds Try.pinned (OpenSpec.upto specDualSpec)

/-- 'foliotlaw27.SpecSince', WHERE WHAT IT READS IS OF BULK AT MOST 1048576: true; the input reads as it did. -/
def specSinceUptoRow : OpenClaim := { program := "ytaclkccgjpjdjaa", sum := "f776ed3f1766dbf272320627a7dfc4c5affec4345b688a2f6386582ba68eb9e5", func := "foliot/foliotlaw27.SpecSince", spec := "specSince", unfollowed := true, recurses := true, loops := true, apart := false, narrowed := true }
def SpecSinceUptoSaid : Prop := specSinceUptoRow.holds Try.pinned (OpenSpec.upto specSinceSpec)

/-- 'foliotlaw27.SpecNone', WHERE WHAT IT READS IS OF BULK AT MOST 1048576: true; the input reads as it did. -/
def specNoneUptoRow : OpenClaim := { program := "ytaclkccgjpjdjaa", sum := "f776ed3f1766dbf272320627a7dfc4c5affec4345b688a2f6386582ba68eb9e5", func := "foliot/foliotlaw27.SpecNone", spec := "specNone", unfollowed := true, recurses := true, loops := true, apart := false, narrowed := true }
def SpecNoneUptoSaid : Prop := specNoneUptoRow.holds Try.pinned (OpenSpec.upto specNoneSpec)

/-- 'foliotlaw03.RatioTexts', WHERE WHAT IT READS IS OF BULK AT MOST 1048576: true; the input reads as it did. -/
def ratioTextsUptoRow : OpenClaim := { program := "ytaclkccgjpjdjaa", sum := "f776ed3f1766dbf272320627a7dfc4c5affec4345b688a2f6386582ba68eb9e5", func := "foliot/foliotlaw03.RatioTexts", spec := "ratioTexts", inPlace := ["internal/bytealg.IndexByteString", "internal/bytealg.IndexString"], unfollowed := true, recurses := true, named := ["internal/bytealg.MaxLen"], apart := false, narrowed := true }
def RatioTextsUptoSaid : Prop := ratioTextsUptoRow.holds Try.pinned (OpenSpec.upto ratioTextsSpec)

/-- 'foliotlaw03.RatioParts', WHERE WHAT IT READS IS OF BULK AT MOST 1048576: true; the input reads as it did. -/
def ratioPartsUptoRow : OpenClaim := { program := "ytaclkccgjpjdjaa", sum := "f776ed3f1766dbf272320627a7dfc4c5affec4345b688a2f6386582ba68eb9e5", func := "foliot/foliotlaw03.RatioParts", spec := "ratioParts", inPlace := ["internal/bytealg.IndexByteString", "internal/bytealg.IndexString"], unfollowed := true, recurses := true, named := ["internal/bytealg.MaxLen"], apart := false, narrowed := true }
def RatioPartsUptoSaid : Prop := ratioPartsUptoRow.holds Try.pinned (OpenSpec.upto ratioPartsSpec)

/-- 'foliotlaw03.RatioOne', WHERE WHAT IT READS IS OF BULK AT MOST 1048576: true; the input reads as it did. -/
def ratioOneUptoRow : OpenClaim := { program := "ytaclkccgjpjdjaa", sum := "f776ed3f1766dbf272320627a7dfc4c5affec4345b688a2f6386582ba68eb9e5", func := "foliot/foliotlaw03.RatioOne", spec := "ratioOne", inPlace := ["internal/bytealg.IndexByteString", "internal/bytealg.IndexString"], unfollowed := true, recurses := true, named := ["internal/bytealg.MaxLen"], apart := false, narrowed := true }
def RatioOneUptoSaid : Prop := ratioOneUptoRow.holds Try.pinned (OpenSpec.upto ratioOneSpec)

/-- 'foliotlaw03.RatioBack', WHERE WHAT IT READS IS OF BULK AT MOST 1048576: true; the input reads as it did. -/
def ratioBackUptoRow : OpenClaim := { program := "ytaclkccgjpjdjaa", sum := "f776ed3f1766dbf272320627a7dfc4c5affec4345b688a2f6386582ba68eb9e5", func := "foliot/foliotlaw03.RatioBack", spec := "ratioBack", inPlace := ["internal/bytealg.IndexByteString", "internal/bytealg.IndexString"], unfollowed := true, recurses := true, named := ["internal/bytealg.MaxLen"], apart := false, narrowed := true }
def RatioBackUptoSaid : Prop := ratioBackUptoRow.holds Try.pinned (OpenSpec.upto ratioBackSpec)

/-- 'foliotlaw03.RatioField', WHERE WHAT IT READS IS OF BULK AT MOST 1048576: true; the input reads as it did. -/
def ratioFieldUptoRow : OpenClaim := { program := "ytaclkccgjpjdjaa", sum := "f776ed3f1766dbf272320627a7dfc4c5affec4345b688a2f6386582ba68eb9e5", func := "foliot/foliotlaw03.RatioField", spec := "ratioField", inPlace := ["internal/bytealg.IndexByteString", "internal/bytealg.IndexString"], unfollowed := true, recurses := true, named := ["internal/bytealg.MaxLen"], apart := false, narrowed := true }
def RatioFieldUptoSaid : Prop := ratioFieldUptoRow.holds Try.pinned (OpenSpec.upto ratioFieldSpec)

/-- 'foliotlaw03.RatioOrder', WHERE WHAT IT READS IS OF BULK AT MOST 1048576: true; the input reads as it did. -/
def ratioOrderUptoRow : OpenClaim := { program := "ytaclkccgjpjdjaa", sum := "f776ed3f1766dbf272320627a7dfc4c5affec4345b688a2f6386582ba68eb9e5", func := "foliot/foliotlaw03.RatioOrder", spec := "ratioOrder", inPlace := ["internal/bytealg.IndexByteString", "internal/bytealg.IndexString"], unfollowed := true, recurses := true, named := ["internal/bytealg.MaxLen"], apart := false, narrowed := true }
def RatioOrderUptoSaid : Prop := ratioOrderUptoRow.holds Try.pinned (OpenSpec.upto ratioOrderSpec)

end Rows
end Go.Proofs.Ytaclkccgjpjdjaa
