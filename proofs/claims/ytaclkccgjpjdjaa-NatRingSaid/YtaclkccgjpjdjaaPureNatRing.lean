/- NatRing: for any three numbers of at most 12 limbs, sums and products do not hang on their order, products are parted over sums, sums may be taken in either order, and what was added may be taken away. No condition but the machine's own bounds. -/
import Derived.Test.YtaclkccgjpjdjaaNaBase
import Derived.Test.YtaclkccgjpjdjaaRx1
namespace Go.Proofs.Ytaclkccgjpjdjaa.Pure
open Go.RowKit Go.Proofs.Ytaclkccgjpjdjaa.R Go.Proofs.YtaclkccgjpjdjaaW.PrintWords Go.Proofs.YtaclkccgjpjdjaaW.PrintLast Go.Proofs.Ytaclkccgjpjdjaa.Nt Go.Proofs.Ytaclkccgjpjdjaa.Na
set_option linter.unusedVariables false
set_option linter.unusedSimpArgs false
theorem NatRing_j {a b c : List Int} (fa : fits a) (fb : fits b) (fc : fits c) (hl : a.length ≤ 12 ∧ b.length ≤ 12 ∧ c.length ≤ 12) : Ev (fun k => foliotlaw01_NatRing.j0 k a b c false) true := by
  have lenA := len_val_le fa.1
  have lenB := len_val_le fb.1
  have lenC := len_val_le fc.1
  generalize hA : val a = A at *
  generalize hB : val b = B at *
  generalize hC : val c = C at *
  have l1 := len_add A B
  have l2 := len_mul A B
  have l3 := len_mul (A + B) C
  have l4 := len_mul A C
  have l5 := len_mul B C
  have l6 := len_add B C
  have l7 := len_add (A + B) C
  have f1 : fits (ofN (A + B)) := fits_ofN (by omega)
  have f4 : fits (ofN (A * C)) := fits_ofN (by omega)
  have f5 : fits (ofN (B * C)) := fits_ofN (by omega)
  have f6 : fits (ofN (B + C)) := fits_ofN (by omega)
  have e1 := add_at fa fb
  have e2 := mul_at fa fb
  have e3 := sub_at f1 fb (by rw [val_ofN, hB]; omega)
  have e4 := add_at fb fa
  have e5 := mul_at fb fa
  have e6 := mul_at f1 fc
  have e7 := mul_at fa fc
  have e8 := mul_at fb fc
  have e9 := add_at f4 f5
  have e10 := add_at f1 fc
  have e11 := add_at fb fc
  have e12 := add_at fa f6
  have e13 := trim_at fa
  simp only [hA, hB, hC, val_ofN] at e1 e2 e3 e4 e5 e6 e7 e8 e9 e10 e11 e12 e13
  rw [Nat.add_comm B A] at e4
  rw [Nat.mul_comm B A] at e5
  rw [← Nat.add_mul] at e9
  rw [← Nat.add_assoc] at e12
  rw [Nat.add_sub_cancel] at e3
  have s1 := same_of (l := ofN (A + B)) (m := ofN (A + B)) (by omega) rfl
  have s2 := same_of (l := ofN (A * B)) (m := ofN (A * B)) (by omega) rfl
  have s3 := same_of (l := ofN ((A + B) * C)) (m := ofN ((A + B) * C)) (by omega) rfl
  have s4 := same_of (l := ofN (A + B + C)) (m := ofN (A + B + C)) (by omega) rfl
  have s5 := same_of (l := ofN A) (m := ofN A) (by omega) rfl
  clear l1 l2 l3 l4 l5 l6 l7 f1 f4 f5 f6
  generalize ofN (A + B + C) = X5 at *
  generalize ofN ((A + B) * C) = X4 at *
  generalize ofN (A + B) = X1 at *
  generalize ofN (A * B) = X2 at *
  generalize ofN (A * C) = X6 at *
  generalize ofN (B * C) = X7 at *
  generalize ofN (B + C) = X8 at *
  generalize ofN A = X9 at *
  refine Ev.step (f := fun k => (foliotref01_Same.f k X1 X1).bind fun t => if t = true then (foliotref01_Same.f k X2 X2).bind fun t => if t = true then (foliotref01_Same.f k X4 X4).bind fun t => if t = true then (foliotref01_Same.f k X5 X5).bind fun t => if t = true then (foliotref01_Same.f k X9 X9).bind fun t => if t = true then (foliotlaw01_awake.f k).bind fun t => some t else none else none else none else none else none) (fun k => ?_) ?_
  · simp only [foliotlaw01_NatRing.j0, Bool.false_eq_true, if_false, e1, e2, e3, e4, e5, e6, e7, e8, e9, e10, e11, e12, e13, Option.bind_some, if_true]
  · refine Ev.bind s1 (Ev.congr (f := fun k => _) (fun k => if_pos rfl) (Ev.bind s2 (Ev.congr (f := fun k => _) (fun k => if_pos rfl) (Ev.bind s3 (Ev.congr (f := fun k => _) (fun k => if_pos rfl) (Ev.bind s4 (Ev.congr (f := fun k => _) (fun k => if_pos rfl) (Ev.bind s5 (Ev.congr (f := fun k => _) (fun k => if_pos rfl) (Ev.bind awake_ev (Ev.now _)))))))))))
theorem NatRing : foliotlaw01_NatRing.Pure := by
  intro a b c _ _ ha _ _ hb _ _ hc
  apply Ev.rounds (r := true)
  have la := lim_of ha
  have lb := lim_of hb
  have lc := lim_of hc
  unfold foliotlaw01_NatRing.f
  rw [few_at, few_at]
  simp only [Option.bind_some, List.length_nil]
  have hno : Ev (fun k => foliotlaw01_NatRing.j0 k a b c true) true := Ev.step (f := fun _ => some true) (fun k => by simp [foliotlaw01_NatRing.j0]) (Ev.now _)
  by_cases h12 : (decide (a.length ≤ 12) && decide (b.length ≤ 12)) = true
  · simp only [h12, if_true]
    by_cases hc12 : c.length ≤ 12
    · simp only [hc12, decide_true, Nat.zero_le, Bool.and_self, Bool.not_true]
      simp only [Bool.and_eq_true, decide_eq_true_eq] at h12
      exact NatRing_j (fits_of la (by omega)) (fits_of lb (by omega)) (fits_of lc (by omega)) ⟨h12.1, h12.2, hc12⟩
    · simp only [hc12, decide_false, Bool.false_and, Bool.not_false]
      exact hno
  · simp only [h12]
    exact hno
end Go.Proofs.Ytaclkccgjpjdjaa.Pure
