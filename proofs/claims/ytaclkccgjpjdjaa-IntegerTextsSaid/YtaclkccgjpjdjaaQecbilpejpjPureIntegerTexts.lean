/- IntegerTexts: the program's digits of any integer of at most 10 limbs, and what it says of any text of at most 400 bytes, are the reference's; and what is printed is parsed as the same integer. No condition but the machine's own bounds. -/
import Derived.Test.YtaclkccgjpjdjaaQjbjgkgepboZBase
import Derived.Test.YtaclkccgjpjdjaaQiecfipbodjBTx2
namespace Go.Proofs.Ytaclkccgjpjdjaa.Pure
open Go.RowKit Go.Proofs.Ytaclkccgjpjdjaa.BT Go.Proofs.YtaclkccgjpjdjaaW.PrintWords Go.Proofs.YtaclkccgjpjdjaaW.PrintLast Go.Proofs.Ytaclkccgjpjdjaa.Nt Go.Proofs.Ytaclkccgjpjdjaa.Zi Go.Proofs.Ytaclkccgjpjdjaa.Zb
set_option linter.unusedVariables false
set_option linter.unusedSimpArgs false
theorem minus_text (n : Nat) : minus (text n) = false := by
  unfold minus
  cases hb : (bt (text n) 0 == 45)
  · rw [Bool.and_false]
  · exfalso
    rw [beq_iff_eq, ← rd_bytesOf, bytesOf_text] at hb
    by_cases h : n = 0
    · rw [if_pos h] at hb; exact absurd hb (by decide)
    · rw [if_neg h] at hb
      have hd : Dig (low n).reverse := fun c hc => low_dig n c (List.mem_reverse.1 hc)
      cases hl : (low n).reverse with
      | nil => exact h (low_nil.1 (List.reverse_eq_nil_iff.1 hl))
      | cons x r =>
        rw [hl] at hb hd
        have := hd x (List.mem_cons_self ..)
        have e : rd (x :: r) 0 = x := rfl
        omega
theorem data_minus (t : ByteArray) : ((⟨#[45]⟩ : ByteArray) ++ t).data.toList = 45 :: t.data.toList := by
  rw [ByteArray.data_append]; simp
theorem minus_minus (t : ByteArray) : minus ((⟨#[45]⟩ : ByteArray) ++ t) = true := by
  have hs : ((⟨#[45]⟩ : ByteArray) ++ t).size = t.size + 1 := by
    rw [← data_length, data_minus, List.length_cons, data_length]
  unfold minus
  rw [decide_eq_true (by omega), Bool.true_and, beq_iff_eq, ← rd_bytesOf]
  unfold bytesOf
  rw [data_minus]
  rfl
theorem cut_minus (t : ByteArray) : ((⟨#[45]⟩ : ByteArray) ++ t).extract 1 ((⟨#[45]⟩ : ByteArray) ++ t).size = t := by
  have hs : ((⟨#[45]⟩ : ByteArray) ++ t).size = t.size + 1 := by
    rw [← data_length, data_minus, List.length_cons, data_length]
  apply ByteArray.ext
  apply Array.toList_inj.1
  rw [ByteArray.data_extract, Array.toList_extract, data_minus, hs]
  show ((45 :: t.data.toList).drop 1).take (t.size + 1 - 1) = _
  rw [List.drop_succ_cons, List.drop_zero, Nat.add_sub_cancel, ← data_length, List.take_length]
theorem parse_print {z : Int} (h : (low z.natAbs).length ≤ 300) : parseZ (printZ z) = ((ofZ z).1, (ofZ z).2, 0) := by
  have hp := parsed_text h
  unfold parseZ printZ
  by_cases hz : z < 0
  · simp only [if_pos hz, minus_minus, if_true, cut_minus, hp]
    have e : zval true (ofN z.natAbs) = z := by rw [zval_ofN]; unfold sg; simp; omega
    rw [e]
  · simp only [if_neg hz, minus_text, Bool.false_eq_true, if_false, hp, if_true]
    have e : zval false (ofN z.natAbs) = z := by rw [zval_ofN]; unfold sg; simp; omega
    rw [e]
theorem parse_len (s : ByteArray) : (parseZ s).2.1.length ≤ 300 := by
  have hf := parsed_fits (if minus s then s.extract 1 s.size else s)
  unfold parseZ
  generalize parsed (if minus s then s.extract 1 s.size else s) = r at *
  by_cases h : r.2 = 0
  · simp only [if_pos h]
    show (ofN _).length ≤ _
    exact Nat.le_trans (zval_len hf.1) hf.2
  · simp only [if_neg h]
    exact Nat.zero_le _
theorem IntegerTexts (a : Bool) (l : List Int) (s : ByteArray) (hl : lim l) (hs : s.size ≤ 140737488351232) : ∃ k, foliotlaw02_IntegerTexts.f k a l s = some true := by
  have hno : ∀ k, foliotlaw02_IntegerTexts.j0 (k + 1) s true a l = some true := fun k => by simp only [foliotlaw02_IntegerTexts.j0, if_true]
  by_cases h12 : l.length ≤ 10
  · have g : (decide (l.length ≤ 10) && decide (l.length ≤ 10)) = true := by simp [h12]
    by_cases h4 : s.size > 400
    · refine ⟨1, ?_⟩
      unfold foliotlaw02_IntegerTexts.f
      rw [few_at, g]
      simp only [Option.bind_some, if_true]
      rw [decide_eq_true (show (s.size : Int) > 400 by omega)]
      exact hno 0
    · have fl : few 50000 l := ⟨hl, by omega⟩
      have l1 := zval_len (b := a) hl
      have e1 : integer_Parse.f s = some (parseZ s) := if_pos hs
      have e2 : foliotref02_Parse.f s = some (parseZ s) := if_pos hs
      have e3 : integer_Print.f a l = some (printZ (zval a l)) := if_pos fl
      have e4 : foliotref02_Print.f a l = some (printZ (zval a l)) := if_pos fl
      have e5 : integer_Norm.f a l = some (ofZ (zval a l)) := if_pos fl
      have l2 := text_size (zval a l).natAbs
      have l3 := low_ofN (zval a l).natAbs
      have hps : (printZ (zval a l)).size ≤ 140737488351232 := by
        unfold printZ
        split
        · have : ((⟨#[45]⟩ : ByteArray) ++ text (zval a l).natAbs).size = (text (zval a l).natAbs).size + 1 := by
            rw [← data_length, data_minus, List.length_cons, data_length]
          omega
        · omega
      have e6 : integer_Parse.f (printZ (zval a l)) = some (parseZ (printZ (zval a l))) := if_pos hps
      rw [parse_print (by omega)] at e6
      generalize zval a l = A at *
      have hpl := parse_len s
      have s1 := samez_ev (a := (parseZ s).1) (b := (parseZ s).1) (l := (parseZ s).2.1) (m := (parseZ s).2.1) (by omega)
      simp only [decide_true, Bool.and_self] at s1
      obtain ⟨K1, h1⟩ := s1
      obtain ⟨K2, h2⟩ := samez (z := A) (k := 100) (few_ofZ (by omega)) (by omega)
      refine ⟨K1 + K2 + 1, ?_⟩
      unfold foliotlaw02_IntegerTexts.f
      rw [few_at, g]
      simp only [Option.bind_some, if_true]
      rw [decide_eq_false (show ¬ (s.size : Int) > 400 by omega)]
      simp only [foliotlaw02_IntegerTexts.j0, Bool.false_eq_true, if_false, e1, e2, e3, e4, e5, e6, Option.bind_some, if_true, h1 _ (show K1 ≤ K1 + K2 by omega), h2 _ (show K2 ≤ K1 + K2 by omega), awake_at]
  · refine ⟨1, ?_⟩
    unfold foliotlaw02_IntegerTexts.f
    have g : (decide (l.length ≤ 10) && decide (l.length ≤ 10)) = false := by simp [h12]
    rw [few_at, g]
    exact hno 0
end Go.Proofs.Ytaclkccgjpjdjaa.Pure
