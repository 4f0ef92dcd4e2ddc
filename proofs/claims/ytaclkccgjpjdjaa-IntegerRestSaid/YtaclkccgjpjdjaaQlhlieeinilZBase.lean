import Derived.Test.YtaclkccgjpjdjaaQiaeglegapnM
import Derived.Deep.Slices
import Derived.Deep.Fields
import Derived.ChangeSame
import Derived.ChangeArms
import Derived.Lib.SmallJoins
import Derived.Test.YtaclkccgjpjdjaaQjkeigghlgoBRx1
/- What the laws of chapter 2 lean on: Same, the examples, and how an integer is read that is handed in. -/
namespace Go.Proofs.Ytaclkccgjpjdjaa.Zb
open Go.RowKit Go.Proofs.YtaclkccgjpjdjaaW.PrintWords Go.Proofs.YtaclkccgjpjdjaaW.PrintMore Go.Proofs.Ytaclkccgjpjdjaa.BR Go.Proofs.Ytaclkccgjpjdjaa.Nt Go.Proofs.Ytaclkccgjpjdjaa.Zi
set_option linter.unusedVariables false
set_option linter.unusedSimpArgs false
theorem same_l0 : ∀ (l m p q : List Int), l.length = m.length → p.length = q.length → p.length + l.length < 4000000000000000000 → Ev (fun k => foliotref01_Same.l0 k (p ++ l) (q ++ m) (p.length : Int)) (decide (l = m)) := by
  intro l
  induction l with
  | nil =>
    intro m p q hl _ _
    obtain rfl : m = [] := List.eq_nil_of_length_eq_zero (by simpa using hl.symm)
    refine Ev.step (f := fun _ => some true) (fun k => ?_) (Ev.now _)
    simp only [foliotref01_Same.l0]; rw [if_neg (by simp)]
  | cons x l ih =>
    intro m p q hl hp hb
    cases m with
    | nil => simp at hl
    | cons y m =>
      simp only [List.length_cons] at hl hb
      have e1 : rd (p ++ x :: l) (p.length : Int) = x := rd_app _ _ _ _ rfl
      have e2 : rd (q ++ y :: m) (p.length : Int) = y := rd_app _ _ _ _ (by omega)
      by_cases hxy : x = y
      · have h := ih m (p ++ [x]) (q ++ [y]) (by omega) (by simp; omega) (by simp; omega)
        refine Ev.step (f := fun k => foliotref01_Same.l0 k ((p ++ [x]) ++ l) ((q ++ [y]) ++ m) ((p ++ [x]).length : Int)) (fun k => ?_) ?_
        · simp only [foliotref01_Same.l0]
          rw [if_pos (by simp; omega), if_pos (by omega), if_pos (by simp; omega), e1, e2, if_pos hxy, w64 (by omega) (by omega)]
          simp
        · rw [show decide (x :: l = y :: m) = decide (l = m) by rw [decide_eq_decide]; simp [hxy]]; exact h
      · refine Ev.step (f := fun _ => some false) (fun k => ?_) ?_
        · simp only [foliotref01_Same.l0]
          rw [if_pos (by simp; omega), if_pos (by omega), if_pos (by simp; omega), e1, e2, if_neg hxy]
        · rw [show decide (x :: l = y :: m) = false by simp [hxy]]; exact Ev.now _
theorem same_ev {l m : List Int} (h : l.length < 4000000000000000000) : Ev (fun k => foliotref01_Same.f k l m) (decide (l = m)) := by
  unfold foliotref01_Same.f
  by_cases hl : l.length = m.length
  · exact Ev.congr (fun k => if_pos (by omega)) (same_l0 l m [] [] hl rfl (by simpa using h))
  · rw [show decide (l = m) = false by simp; intro e; exact hl (by rw [e])]
    exact Ev.congr (f := fun _ => some false) (fun k => if_neg (by omega)) (Ev.now _)
theorem samez_ev {a b : Bool} {l m : List Int} (h : l.length < 4000000000000000000) : Ev (fun k => foliotlaw02_same.f k a l b m) (decide (a = b) && decide (l = m)) := by
  unfold foliotlaw02_same.f foliotref02_Same.f
  by_cases e : a = b
  · rw [decide_eq_true e, Bool.true_and]
    exact Ev.bind (Ev.congr (f := fun k => (foliotref01_Same.f k l m).bind fun t => some t) (fun k => if_pos (by simpa using e)) (Ev.bind (same_ev h) (Ev.now _))) (Ev.now _)
  · rw [decide_eq_false e, Bool.false_and]
    exact Ev.bind (Ev.congr (f := fun k => some false) (fun k => if_neg (by simpa using e)) (Ev.now _)) (Ev.now _)
theorem samez {k : Nat} {z : Int} (hz : few k (ofZ z).2) (hk : k ≤ 1000000) : Ev (fun k => foliotlaw02_same.f k (ofZ z).1 (ofZ z).2 (ofZ z).1 (ofZ z).2) true := by
  have h := samez_ev (a := (ofZ z).1) (b := (ofZ z).1) (l := (ofZ z).2) (m := (ofZ z).2) (by have := hz.2; omega)
  simpa using h
theorem few_at {a b : Bool} {l m : List Int} : foliotlaw02_few.f a l b m = some (decide (l.length ≤ 10) && decide (m.length ≤ 10)) := by
  unfold foliotlaw02_few.f
  by_cases h : l.length ≤ 10
  · rw [if_pos (by omega), decide_eq_true h, Bool.true_and]; congr 1; rw [decide_eq_decide]; omega
  · rw [if_neg (by omega), decide_eq_false h, Bool.false_and]
theorem ex1 : foliotref02_Of.f (-7) = some (true, [7]) := by decide +kernel
theorem ex2 : foliotref02_Of.f 2 = some (false, [2]) := by decide +kernel
theorem ex3 : foliotref02_Of.f 7 = some (false, [7]) := by decide +kernel
theorem ex4 : foliotref02_Of.f (-2) = some (true, [2]) := by decide +kernel
theorem ex5 : integer_Div.f true [7] false [2] = some (true, [4], false, [1], 0) := by decide +kernel
theorem ex6 : integer_Div.f false [7] true [2] = some (true, [4], true, [1], 0) := by decide +kernel
theorem ex7 : integer_Parse.f ⟨#[45, 48]⟩ = some (false, [], 0) := by decide +kernel
theorem ex8 : integer_Print.f true [4] = some (printZ (-4)) := by decide +kernel
theorem ex9 : integer_Print.f false [1] = some (printZ 1) := by decide +kernel
theorem ex10 : integer_Print.f true [1] = some (printZ (-1)) := by decide +kernel
theorem ex11 : (printZ (-4)).data.toList = [45, 52] := by decide +kernel
theorem ex12 : (printZ 1).data.toList = [49] := by decide +kernel
theorem ex13 : (printZ (-1)).data.toList = [45, 49] := by decide +kernel
theorem awake_at : foliotlaw02_awake.f = some true := by
  unfold foliotlaw02_awake.f
  have t1 := eq_true ((toList_eq _).trans ex11)
  have t2 := eq_true ((toList_eq _).trans ex12)
  have t3 := eq_true ((toList_eq _).trans ex13)
  simp only [ex1, ex2, ex3, ex4, ex5, ex6, ex7, ex8, ex9, ex10, Option.bind_some, if_true, t1, t2, t3]
  rfl
theorem lim_of {l : List Int} (h : ∀ x ∈ l, (Lit.int .u32 x).wf = true) : lim l := fun x hx => by
  have := h x hx
  simp only [Lit.wf, Bool.and_eq_true, decide_eq_true_eq] at this
  have h1 : IntKind.u32.min = 0 := rfl
  have h2 : IntKind.u32.max = 4294967295 := rfl
  omega
section
open Go.ChangeShapes Go.WideShapes Go.Deep Go.Joins
set_option maxRecDepth 100000 in
theorem int_read {H : Type} {enc : TypeId × Value → H} {W : World} {base b0 : Nat} {r : Reach} {held : Bool} {v : Value} {d : DataW H} {p : List MemPlace}
    (hv : Value.okWide Try.prog W r b0 39 v) (h : DataW.Trod enc Try.prog W base (fun _ => true) held 39 v d p) :
    ∃ (b : Bool) (A : Option Addr) (c : Nat) (l : List Int), v = .agg #[.bool b, .slice A l.length c] ∧ Kd.C (Kd.int .u32) W A l.length l ∧ l.length ≤ c ∧ lim l := by
  have hone : ∀ fs, Try.prog.underlying 39 = some (.struct fs) → oneCellFields Try.prog fs = true := by
    intro fs h
    rw [Try.underlying39] at h
    cases h
    kernel_rfl
  have hsz : Try.prog.cellsOf 39 = 2 := by kernel_rfl
  obtain ⟨v0, v1, y0, y1, n, rfl, _, _, h0, h1⟩ := open_agg2 Try.underlying39 (hone _ Try.underlying39) hsz hv h
  obtain ⟨b, e0, _, _⟩ := DataW.trod_bool Try.underlying4 h0
  cases e0
  rcases open_ints Try.underlying22 Try.underlying107 (by kernel_rfl) h1 with ⟨hcs, _⟩ | ⟨x, l, c, zs, hcs, _, hl, hm, hz, _, hcell, hwz⟩
  · cases hcs
    exact ⟨b, none, 0, [], rfl, ⟨rfl, by simp, fun h => absurd h (by simp)⟩, Nat.le_refl _, lim_nil⟩
  · cases hcs
    obtain ⟨m, rfl, hr0, hm0, hw0, hc0⟩ := ReadsInt.ofRowC (k := .u32) (w := W) (a := some x) (len := l) (cap := c) (zs := zs) (.inr ⟨x, rfl, hl, hm, by simpa using hz, hcell, hwz⟩)
    exact ⟨b, some x, c, m, rfl, Kd.C_of_reads (d := (0 : Int)) (h1 := fun _ => rfl) hr0, hc0, lim_of hw0⟩
end
end Go.Proofs.Ytaclkccgjpjdjaa.Zb
