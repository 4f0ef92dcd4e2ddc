import Derived.Test.YtaclkccgjpjdjaaQcooddfocpmNx0
import Derived.Test.YtaclkccgjpjdjaaQlncljbhioeNx7
import Derived.Test.YtaclkccgjpjdjaaQipcojhjkmgM
namespace Go.Proofs.Ytaclkccgjpjdjaa.N
open Go.RowKit Go.Proofs.YtaclkccgjpjdjaaW.PrintWords Go.Proofs.YtaclkccgjpjdjaaW.PrintLast Go.Proofs.YtaclkccgjpjdjaaW.PrintMore
attribute [local go_sem] max2_int min2_int max_two min_two max_three min_three max_four min_four   -- for this text's walks alone
set_option linter.unusedVariables false
set_option linter.unusedSimpArgs false
def foliotref01_at.f (l0 : List Bool) (a1 : Int) : Option (Bool) := if a1 < (l0.length : Int) then (if 0 ≤ a1 then (some (rdOf false l0 a1)) else (none)) else (some false)
def foliotref01_cmp.l0 : Nat → List Bool → List Bool → Int → Option (Int)
 | 0, _, _, _ => none
 | k + 1, x0, x1, x5 => if x5 ≥ 0 then ((foliotref01_at.f x0 x5).bind fun t458 => ((foliotref01_at.f x1 x5).bind fun t459 => (if (t458 != t459) = true then ((foliotref01_at.f x0 x5).bind fun t460 => (if t460 = true then (some 1) else (some (-1)))) else (foliotref01_cmp.l0 k x0 x1 (wrap64 (x5 - 1)))))) else (some 0)
def foliotref01_cmp.f (k : Nat) (l0 : List Bool) (l1 : List Bool) : Option (Int) := foliotref01_cmp.l0 k l0 l1 (wrap64 ((mx (l0.length : Int) (l1.length : Int)) - 1))
end Go.Proofs.Ytaclkccgjpjdjaa.N
