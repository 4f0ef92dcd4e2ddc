import Derived.Test.YtaclkccgjpjdjaaQNatTextsM1
import Derived.Test.YtaclkccgjpjdjaaQNatTextsTx1
/- What the laws of chapter 1 lean on: Same, the examples, and the nat functions at numbers. -/
namespace Go.Proofs.Ytaclkccgjpjdjaa.Na
open Go.RowKit Go.Proofs.YtaclkccgjpjdjaaW.PrintWords Go.Proofs.YtaclkccgjpjdjaaW.PrintMore Go.Proofs.Ytaclkccgjpjdjaa.T Go.Proofs.Ytaclkccgjpjdjaa.Nt
set_option linter.unusedVariables false
set_option linter.unusedSimpArgs false
theorem same_l0 : ∀ (l m p q : List Int), l.length = m.length → p.length = q.length → p.length + l.length < 4000000000000000000 → Ev (fun k => foliotref01_Same.l0 k (p ++ l) (q ++ m) (p.length : Int)) (decide (l = m)) := by
  intro l
  induction l with
  | nil =>
    intro m p q hl _ _
    obtain rfl : m = [] := List.eq_nil_of_length_eq_zero (by simpa using hl.symm)
    refine Ev.step (f := fun _ => some true) (fun k => ?_) (Ev.now _)
    simp only [foliotref01_Same.l0]; rw [if_neg (by simp)]
  | cons x l ih =>
    intro m p q hl hp hb
    cases m with
    | nil => simp at hl
    | cons y m =>
      simp only [List.length_cons] at hl hb
      have e1 : rd (p ++ x :: l) (p.length : Int) = x := rd_app _ _ _ _ rfl
      have e2 : rd (q ++ y :: m) (p.length : Int) = y := rd_app _ _ _ _ (by omega)
      by_cases hxy : x = y
      · have h := ih m (p ++ [x]) (q ++ [y]) (by omega) (by simp; omega) (by simp; omega)
        refine Ev.step (f := fun k => foliotref01_Same.l0 k ((p ++ [x]) ++ l) ((q ++ [y]) ++ m) ((p ++ [x]).length : Int)) (fun k => ?_) ?_
        · simp only [foliotref01_Same.l0]
          rw [if_pos (by simp; omega), if_pos (by omega), if_pos (by simp; omega), e1, e2, if_pos hxy, w64 (by omega) (by omega)]
          simp
        · rw [show decide (x :: l = y :: m) = decide (l = m) by rw [decide_eq_decide]; simp [hxy]]; exact h
      · refine Ev.step (f := fun _ => some false) (fun k => ?_) ?_
        · simp only [foliotref01_Same.l0]
          rw [if_pos (by simp; omega), if_pos (by omega), if_pos (by simp; omega), e1, e2, if_neg hxy]
        · rw [show decide (x :: l = y :: m) = false by simp [hxy]]; exact Ev.now _
theorem same_ev {l m : List Int} (h : l.length < 4000000000000000000) : Ev (fun k => foliotref01_Same.f k l m) (decide (l = m)) := by
  unfold foliotref01_Same.f
  by_cases hl : l.length = m.length
  · exact Ev.congr (fun k => if_pos (by omega)) (same_l0 l m [] [] hl rfl (by simpa using h))
  · rw [show decide (l = m) = false by simp; intro e; exact hl (by rw [e])]
    exact Ev.congr (f := fun _ => some false) (fun k => if_neg (by omega)) (Ev.now _)
theorem same_of {l m : List Int} (h : l.length < 4000000000000000000) (e : l = m) : Ev (fun k => foliotref01_Same.f k l m) true := by
  have := same_ev (m := m) h; rwa [decide_eq_true e] at this
theorem ex1 : parsed ⟨#[49, 48, 48, 48, 48, 48, 48, 48, 48, 48, 48, 48, 48, 48, 48, 48, 48, 48, 48, 48, 48]⟩ = (ofN 100000000000000000000, 0) := by decide +kernel
theorem ex2 : nat_Div.f (ofN 100000000000000000000) [7] = some (ofN 14285714285714285714, [2], 0) := by decide +kernel
theorem ex3 : parsed ⟨#[48, 48, 55]⟩ = ([7], 0) := by decide +kernel
theorem ex4 : (text 14285714285714285714).data.toList = [49, 52, 50, 56, 53, 55, 49, 52, 50, 56, 53, 55, 49, 52, 50, 56, 53, 55, 49, 52] := by decide +kernel
theorem ex5 : nat_Gcd.f [12] [18] = some [6] := by decide +kernel
theorem ex6 : nat_Print.f (ofN 14285714285714285714) = some (text 14285714285714285714) := by
  unfold nat_Print.f; rw [if_pos (by decide +kernel), val_ofN]
theorem awake_ev : Ev (fun k => foliotlaw01_awake.f k) true := by
  unfold foliotlaw01_awake.f nat_Parse.f
  rw [if_pos (by decide), if_pos (by decide), ex1, ex3]
  have ht := eq_true ((toList_eq _).trans ex4)
  simp only [Option.bind_some, ex2, ex6, if_true, ht]
  refine Ev.bind (same_of (by decide) rfl) ?_
  simp only [if_true, ex5, Option.bind_some]
  refine Ev.bind (same_of (by decide) rfl) ?_
  simp only [if_true]
  exact Ev.bind (same_of (by decide) rfl) (Ev.now _)
/-- how a law's limbs come in -/
theorem lim_of {l : List Int} (h : ∀ x ∈ l, (Lit.int .u32 x).wf = true) : lim l := fun x hx => by
  have := h x hx
  simp only [Lit.wf, Bool.and_eq_true, decide_eq_true_eq] at this
  have h1 : IntKind.u32.min = 0 := rfl
  have h2 : IntKind.u32.max = 4294967295 := rfl
  omega
theorem fits_of {l : List Int} (h : lim l) (hl : l.length ≤ 8796093022208) : fits l := ⟨h, hl⟩
theorem few_at {l m : List Int} : foliotlaw01_few.f l m = some (decide (l.length ≤ 12) && decide (m.length ≤ 12)) := by
  unfold foliotlaw01_few.f
  by_cases h : l.length ≤ 12
  · rw [if_pos (by omega), decide_eq_true h, Bool.true_and]; congr 1; rw [decide_eq_decide]; omega
  · rw [if_neg (by omega), decide_eq_false h, Bool.false_and]
end Go.Proofs.Ytaclkccgjpjdjaa.Na
