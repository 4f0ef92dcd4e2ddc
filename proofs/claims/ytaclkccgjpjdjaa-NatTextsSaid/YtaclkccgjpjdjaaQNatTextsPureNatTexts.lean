/- NatTexts: the program's digits of any number of at most 12 limbs, and what it says of any text of at most 400 bytes, are the reference's. No condition but the machine's own bounds. -/
import Derived.Test.YtaclkccgjpjdjaaQNatTextsNaBase
import Derived.Test.YtaclkccgjpjdjaaQNatTextsTx1
namespace Go.Proofs.Ytaclkccgjpjdjaa.Pure
open Go.RowKit Go.Proofs.Ytaclkccgjpjdjaa.T Go.Proofs.YtaclkccgjpjdjaaW.PrintWords Go.Proofs.YtaclkccgjpjdjaaW.PrintLast Go.Proofs.Ytaclkccgjpjdjaa.Nt Go.Proofs.Ytaclkccgjpjdjaa.Na
set_option linter.unusedVariables false
set_option linter.unusedSimpArgs false
theorem parsed_len (s : ByteArray) : (parsed s).1.length ≤ 300 := by
  unfold parsed
  split
  · simp
  · rename_i h1
    split
    · simp
    · rename_i h2
      have hd : Dig (bytesOf s) := dig_of (fun e => h1 (Or.inr e))
      have hsz := bytesOf_size s
      refine Nat.le_trans (len_ofN_le (k := s.size) ?_) (by omega)
      rw [hsz]
      exact Nat.lt_of_lt_of_le (numL_lt hd) (Nat.pow_le_pow_left (by omega) _)
theorem NatTexts : foliotlaw01_NatTexts.Pure := by
  intro a s _ _ ha hs
  have la := lim_of ha
  have hno : ∀ k, foliotlaw01_NatTexts.j0 (k + 1) a s true = some true := fun k => by simp only [foliotlaw01_NatTexts.j0, if_true]
  by_cases h12 : a.length ≤ 12
  · have g : (decide (a.length ≤ 12) && decide (([] : List Int).length ≤ 12)) = true := by simp [h12]
    by_cases h4 : s.size > 400
    · refine ⟨1, ?_⟩
      unfold foliotlaw01_NatTexts.f
      rw [few_at, g]
      simp only [Option.bind_some, if_true]
      rw [decide_eq_true (show (s.size : Int) > 400 by omega)]
      exact hno 0
    · have fa : fits a := fits_of la (by omega)
      have ra : Nb.rfits a := ⟨la, by omega⟩
      have e1 : nat_Parse.f s = some (parsed s) := if_pos hs
      have e2 : foliotref01_Parse.f s = some (parsed s) := if_pos hs
      have e3 : nat_Print.f a = some (text (val a)) := if_pos fa
      have e4 : foliotref01_Print.f a = some (text (val a)) := if_pos ra
      have hl := parsed_len s
      obtain ⟨K1, h1⟩ := same_of (l := (parsed s).1) (m := (parsed s).1) (by omega) rfl
      obtain ⟨K5, h5⟩ := awake_ev
      refine ⟨K1 + K5 + 1, ?_⟩
      unfold foliotlaw01_NatTexts.f
      rw [few_at, g]
      simp only [Option.bind_some, if_true]
      rw [decide_eq_false (show ¬ (s.size : Int) > 400 by omega)]
      simp only [foliotlaw01_NatTexts.j0, Bool.false_eq_true, if_false, e1, e2, e3, e4, Option.bind_some, if_true]
      simp only [h1 _ (show K1 ≤ K1 + K5 by omega), h5 _ (show K5 ≤ K1 + K5 by omega), Option.bind_some, if_true]
  · refine ⟨1, ?_⟩
    unfold foliotlaw01_NatTexts.f
    have g : (decide (a.length ≤ 12) && decide (([] : List Int).length ≤ 12)) = false := by simp [h12]
    rw [few_at, g]
    exact hno 0
end Go.Proofs.Ytaclkccgjpjdjaa.Pure
