import Derived.Test.YtaclkccgjpjdjaaQjoggjjmeebIx0
namespace Go.Proofs.Ytaclkccgjpjdjaa.I
open Go.RowKit Go.Proofs.YtaclkccgjpjdjaaW.PrintWords Go.Proofs.YtaclkccgjpjdjaaW.PrintLast Go.Proofs.YtaclkccgjpjdjaaW.PrintMore
attribute [local go_sem] max2_int min2_int max_two min_two max_three min_three max_four min_four   -- for this text's walks alone
set_option linter.unusedVariables false
set_option linter.unusedSimpArgs false
def foliotref01_Div.f (l0 : List Int) (l1 : List Int) : Option (List Int × List Int × Int) := if Nb.rfits l0 ∧ Nb.rfits l1 then some (Nb.divided (Nt.val l0) (Nt.val l1)) else none
theorem foliotref01_Div.calls (A0 : Option Addr) (c0 : Nat) (l0 : List Int) (A1 : Option Addr) (c1 : Nat) (l1 : List Int) (r1 : List Int) (r2 : List Int) (r3 : Int) (w : World) (hr0 : Kd.C (Kd.int .u32) w A0 l0.length l0) (hc0 : l0.length ≤ c0) (hr1 : Kd.C (Kd.int .u32) w A1 l1.length l1) (hc1 : l1.length ≤ c1) (h : foliotref01_Div.f l0 l1 = some (r1, r2, r3)) :
  Calls Try.prog 32 #[.slice A0 l0.length c0, .slice A1 l1.length c1] w fun e w' => ∃ v0_ v1_ : Value, e = .returned (.tuple #[v0_, v1_, .int .i64 r3]) ∧ Kd.R (Kd.int .u32) 107 w' w.heap.size (fun k_ => some k_ ≠ (v1_ : Value).ownBlock) v0_ r1 ∧ Kd.R (Kd.int .u32) 107 w' w.heap.size (fun k_ => some k_ ≠ (v0_ : Value).ownBlock) v1_ r2 ∧ Below w.heap.size w w' := by
 unfold foliotref01_Div.f at h
 split at h
 ·rename_i hf
  injection h with h
  obtain ⟨K, hK⟩ := Nb.rdivide_ev hf.1.2 hf.2.2 hf.1.1 hf.2.1
  exact N.foliotref01_Div.calls K A0 c0 l0 A1 c1 l1 _ _ _ w hr0 hc0 hr1 hc1 ((hK K (Nat.le_refl _)).trans (congrArg some h))
 ·cases h
end Go.Proofs.Ytaclkccgjpjdjaa.I
