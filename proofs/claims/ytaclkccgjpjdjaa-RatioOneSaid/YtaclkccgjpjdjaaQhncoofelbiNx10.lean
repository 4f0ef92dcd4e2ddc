import Derived.Test.YtaclkccgjpjdjaaQpleeljhkpiNx0
import Derived.Test.YtaclkccgjpjdjaaQhbmeckbkjaNx7
import Derived.Test.YtaclkccgjpjdjaaQneebaoggnpNx8
import Derived.Test.YtaclkccgjpjdjaaQpikipffccaNx9
import Derived.Test.YtaclkccgjpjdjaaQbamdiippodM
namespace Go.Proofs.Ytaclkccgjpjdjaa.N
open Go.RowKit Go.Proofs.YtaclkccgjpjdjaaW.PrintWords Go.Proofs.YtaclkccgjpjdjaaW.PrintLast Go.Proofs.YtaclkccgjpjdjaaW.PrintMore
attribute [local go_sem] max2_int min2_int max_two min_two max_three min_three max_four min_four   -- for this text's walks alone
set_option linter.unusedVariables false
set_option linter.unusedSimpArgs false
mutual
def foliotref01_add.l0 : Nat → List Bool → List Bool → List Bool → Bool → Int → Option (List Bool)
 | 0, _, _, _, _, _ => none
 | k + 1, x0, x1, x5, x6, x7 => if x7 < (mx (x0.length : Int) (x1.length : Int)) then (foliotref01_add.j1 k x0 x1 x5 x6 x7 true) else (foliotref01_add.j1 k x0 x1 x5 x6 x7 x6)
def foliotref01_add.j1 : Nat → List Bool → List Bool → List Bool → Bool → Int → Bool → Option (List Bool)
 | 0, _, _, _, _, _, _ => none
 | k + 1, x0, x1, x5, x6, x7, x18 => if x18 = true then ((foliotref01_at.f x0 x7).bind fun t528 => (if t528 = true then (foliotref01_add.j2 k x0 x1 x5 x6 x7 (0 + 1)) else (foliotref01_add.j2 k x0 x1 x5 x6 x7 0))) else ((foliotref01_cut.f k x5).bind fun t525 => (some t525))
def foliotref01_add.j2 : Nat → List Bool → List Bool → List Bool → Bool → Int → Int → Option (List Bool)
 | 0, _, _, _, _, _, _ => none
 | k + 1, x0, x1, x5, x6, x7, x8 => (foliotref01_at.f x1 x7).bind fun t529 => (if t529 = true then (if x6 = true then (if x5.length < 140737488355328 then (foliotref01_add.l0 k x0 x1 (x5 ++ [((Int.tmod (wrap64 ((wrap64 (x8 + 1)) + 1)) 2) == 1)]) (decide ((wrap64 ((wrap64 (x8 + 1)) + 1)) ≥ 2)) (wrap64 (x7 + 1))) else (none)) else (if x5.length < 140737488355328 then (foliotref01_add.l0 k x0 x1 (x5 ++ [((Int.tmod (wrap64 (x8 + 1)) 2) == 1)]) (decide ((wrap64 (x8 + 1)) ≥ 2)) (wrap64 (x7 + 1))) else (none))) else (if x6 = true then (if x5.length < 140737488355328 then (foliotref01_add.l0 k x0 x1 (x5 ++ [((Int.tmod (wrap64 (x8 + 1)) 2) == 1)]) (decide ((wrap64 (x8 + 1)) ≥ 2)) (wrap64 (x7 + 1))) else (none)) else (if x5.length < 140737488355328 then (foliotref01_add.l0 k x0 x1 (x5 ++ [((Int.tmod x8 2) == 1)]) (decide (x8 ≥ 2)) (wrap64 (x7 + 1))) else (none))))
end
def foliotref01_add.f (k : Nat) (l0 : List Bool) (l1 : List Bool) : Option (List Bool) := foliotref01_add.l0 k l0 l1 ([] : List Bool) false 0
end Go.Proofs.Ytaclkccgjpjdjaa.N
