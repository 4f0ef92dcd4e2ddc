import Derived.Test.YtaclkccgjpjdjaaQjoggjjmeebIx0
import Derived.Test.YtaclkccgjpjdjaaQeachkkcicaIx1
import Derived.Test.YtaclkccgjpjdjaaQkdgeadahooM
namespace Go.Proofs.Ytaclkccgjpjdjaa.I
open Go.RowKit Go.Proofs.YtaclkccgjpjdjaaW.PrintWords Go.Proofs.YtaclkccgjpjdjaaW.PrintLast Go.Proofs.YtaclkccgjpjdjaaW.PrintMore
attribute [local go_sem] max2_int min2_int max_two min_two max_three min_three max_four min_four   -- for this text's walks alone
set_option linter.unusedVariables false
set_option linter.unusedSimpArgs false
def foliotref01_Sub.f (l0 : List Int) (l1 : List Int) : Option (List Int × Int) := if Nb.rfits l0 ∧ Nb.rfits l1 then some (if Nt.val l0 < Nt.val l1 then ([], 1) else (Nt.ofN (Nt.val l0 - Nt.val l1), 0)) else none
theorem foliotref01_Sub.calls (A0 : Option Addr) (c0 : Nat) (l0 : List Int) (A1 : Option Addr) (c1 : Nat) (l1 : List Int) (r1 : List Int) (r2 : Int) (w : World) (hr0 : Kd.C (Kd.int .u32) w A0 l0.length l0) (hc0 : l0.length ≤ c0) (hr1 : Kd.C (Kd.int .u32) w A1 l1.length l1) (hc1 : l1.length ≤ c1) (h : foliotref01_Sub.f l0 l1 = some (r1, r2)) :
  Calls Try.prog 46 #[.slice A0 l0.length c0, .slice A1 l1.length c1] w fun e w' => ∃ v0_ : Value, e = .returned (.tuple #[v0_, .int .i64 r2]) ∧ Kd.R (Kd.int .u32) 107 w' w.heap.size (fun _ => True) v0_ r1 ∧ Below w.heap.size w w' := by
 unfold foliotref01_Sub.f at h
 split at h
 ·rename_i hf
  injection h with h
  obtain ⟨K, hK⟩ := Nb.rsub_ev hf.1.2 hf.2.2 hf.1.1 hf.2.1
  exact N.foliotref01_Sub.calls K A0 c0 l0 A1 c1 l1 _ _ w hr0 hc0 hr1 hc1 ((hK K (Nat.le_refl _)).trans (congrArg some h))
 ·cases h
def foliotref01_Add.f (l0 : List Int) (l1 : List Int) : Option (List Int) := if Nb.rfits l0 ∧ Nb.rfits l1 then some (Nt.ofN (Nt.val l0 + Nt.val l1)) else none
theorem foliotref01_Add.calls (A0 : Option Addr) (c0 : Nat) (l0 : List Int) (A1 : Option Addr) (c1 : Nat) (l1 : List Int) (r : List Int) (w : World) (hr0 : Kd.C (Kd.int .u32) w A0 l0.length l0) (hc0 : l0.length ≤ c0) (hr1 : Kd.C (Kd.int .u32) w A1 l1.length l1) (hc1 : l1.length ≤ c1) (h : foliotref01_Add.f l0 l1 = some r) :
  Calls Try.prog 47 #[.slice A0 l0.length c0, .slice A1 l1.length c1] w fun e w' => ∃ v0_ : Value, e = .returned (v0_) ∧ Kd.R (Kd.int .u32) 107 w' w.heap.size (fun _ => True) v0_ r ∧ Below w.heap.size w w' := by
 unfold foliotref01_Add.f at h
 split at h
 ·rename_i hf
  injection h with h
  obtain ⟨K, hK⟩ := Nb.radd_ev hf.1.2 hf.2.2 hf.1.1 hf.2.1
  exact N.foliotref01_Add.calls K A0 c0 l0 A1 c1 l1 _ w hr0 hc0 hr1 hc1 ((hK K (Nat.le_refl _)).trans (congrArg some h))
 ·cases h
end Go.Proofs.Ytaclkccgjpjdjaa.I
