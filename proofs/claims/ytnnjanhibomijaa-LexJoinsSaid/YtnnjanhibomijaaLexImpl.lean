/- What the lexer's printed functions answer, in LexSpec's words. -/
import Derived.Test.YtnnjanhibomijaaAx10
import Derived.Test.YtnnjanhibomijaaLexSpec
namespace Go.Proofs.Ytnnjanhibomijaa.LexImpl
open Go.RowKit Go.Proofs.Ytnnjanhibomijaa.A Go.Proofs.YtnnjanhibomijaaW.PrintWords Go.Proofs.Ytnnjanhibomijaa.LexSpec

theorem Ev.step' {α : Type} {g : Nat → Option α} {r : α} (h : Ev (fun k => g (k + 1)) r) : Ev g r := Ev.step (fun _ => rfl) h
theorem Ev.ret {α : Type} {g : Nat → Option α} {r : α} (h : ∀ k, g k = some r) : Ev g r := ⟨0, fun k _ => h k⟩

def Byt (s : List Int) : Prop := ∀ x ∈ s, 0 ≤ x ∧ x ≤ 255
theorem Byt.suffix {s l : List Int} (h : Byt s) (hl : l <:+ s) : Byt l := fun x hx => h x (hl.subset hx)
theorem Byt.cons {c : Int} {r : List Int} (h : Byt (c :: r)) : 0 ≤ c ∧ c ≤ 255 := h c (List.mem_cons_self ..)
theorem Byt.tail {c : Int} {r : List Int} (h : Byt (c :: r)) : Byt r := fun x hx => h x (List.mem_cons_of_mem _ hx)

/-- where a rest of s begins -/
def pos (s l : List Int) : Int := ((s.length - l.length : Nat) : Int)
theorem pos_nil (s : List Int) : pos s [] = s.length := by simp [pos]
theorem at_cons {s r : List Int} {c : Int} (h : c :: r <:+ s) (hn : s.length ≤ 140737488351232) :
    0 ≤ pos s (c :: r) ∧ pos s (c :: r) < s.length ∧ rd s (pos s (c :: r)) = c ∧ wrap64 (pos s (c :: r) + 1) = pos s r ∧ r <:+ s := by
  obtain ⟨p, rfl⟩ := h
  have e : pos (p ++ c :: r) (c :: r) = (p.length : Int) := by unfold pos; simp
  have e2 : pos (p ++ c :: r) r = (p.length : Int) + 1 := by unfold pos; simp; omega
  simp only [List.length_append, List.length_cons] at hn
  refine ⟨by rw [e]; omega, by rw [e]; simp; omega, ?_, ?_, ⟨p ++ [c], by simp⟩⟩
  · rw [e]; simp [rd]
  · rw [e, e2]; unfold wrap64; omega
theorem pos_le {s l : List Int} : pos s l ≤ s.length := by unfold pos; omega
theorem pos_nn {s l : List Int} : 0 ≤ pos s l := by unfold pos; omega

def kindN (c : Int) : Int := if isBlank c then 1 else if isSmall c then 2 else if isLarge c then 3 else if isDigit c then 4 else if isSign1 c || c == 33 then 5 else 0
theorem kind_all : ∀ c : Fin 256, lex_kind.f 10 ((c.val : Nat) : Int) = some (kindN ((c.val : Nat) : Int)) := by decide +kernel
theorem kind_ev {c : Int} (h : 0 ≤ c ∧ c ≤ 255) : Ev (fun k => lex_kind.f k c) (kindN c) := by
  have := kind_all ⟨c.toNat, by omega⟩
  rw [show ((c.toNat : Nat) : Int) = c from by omega] at this
  exact Ev.of (fun k => lex_kind.mono c k) this

theorem peek0 {s l : List Int} (h : l <:+ s) (hn : s.length ≤ 140737488351232) : lex_lexer_peek.f s (pos s l) 0 = some (l.head?.getD 0, pos s l) := by
  unfold lex_lexer_peek.f
  have hw : wrap64 (pos s l + 0) = pos s l := by have := @pos_le s l; have := @pos_nn s l; unfold wrap64; omega
  rw [hw]
  cases l with
  | nil => rw [pos_nil, if_neg (by omega)]; rfl
  | cons c r =>
    obtain ⟨h0, h1, h2, _, _⟩ := at_cons h hn
    rw [if_pos h1, if_pos h0, h2]; rfl
theorem peek1 {s l : List Int} (h : l <:+ s) (hn : s.length ≤ 140737488351232) : lex_lexer_peek.f s (pos s l) 1 = some (l.tail.head?.getD 0, pos s l) := by
  unfold lex_lexer_peek.f
  cases l with
  | nil => rw [pos_nil, if_neg (by unfold wrap64; omega)]; rfl
  | cons c r =>
    obtain ⟨h0, h1, h2, h3, h4⟩ := at_cons h hn
    rw [h3]
    cases r with
    | nil => rw [pos_nil, if_neg (by omega)]; rfl
    | cons d q =>
      obtain ⟨g0, g1, g2, _, _⟩ := at_cons h4 hn
      rw [if_pos g1, if_pos g0, g2]; rfl

theorem kind_blank (c : Int) : (kindN c = 1) ↔ isBlank c = true := by
  unfold kindN
  cases isBlank c <;> simp
  repeat' split
  all_goals omega

theorem skip_ev {s : List Int} (hs : Byt s) (hn : s.length ≤ 140737488351232) : ∀ l, l <:+ s →
    Ev (fun k => lex_lexer_skip.l0 k s (pos s l)) (pos s (skip false l)) ∧ Ev (fun k => lex_lexer_skip.l1 k s (pos s l)) (pos s (skip true l))
  | [], h => by
    have e0 : Ev (fun k => lex_lexer_skip.l0 k s (pos s [])) (pos s (skip false [])) := by
      refine Ev.step' ?_
      simp only [lex_lexer_skip.l0, pos_nil, Int.lt_irrefl, if_false, skip]
      exact Ev.now _
    refine ⟨e0, Ev.step' ?_⟩
    simp only [lex_lexer_skip.l1, pos_nil, Int.lt_irrefl, if_false, skip]
    simpa only [pos_nil, skip] using e0
  | c :: r, h => by
    obtain ⟨h0, h1, h2, h3, h4⟩ := at_cons h hn
    obtain ⟨i0, i1⟩ := skip_ev hs hn r h4
    have hc := (hs.suffix h).cons
    have blank : isBlank c = true → Ev (fun k => lex_lexer_skip.l0 k s (pos s (c :: r))) (pos s (skip false r)) := by
      intro hb
      refine Ev.step' ?_
      simp only [lex_lexer_skip.l0, if_pos h1, if_pos h0, h2]
      refine Ev.bind (kind_ev hc) ?_
      simp only [if_pos ((kind_blank c).2 hb), h3]
      exact i0
    have line : Ev (fun k => lex_lexer_skip.l1 k s (pos s (c :: r))) (pos s (skip true (c :: r))) := by
      refine Ev.step' ?_
      simp only [lex_lexer_skip.l1, if_pos h1, if_pos h0, h2, skip]
      by_cases e : c = 10
      · subst e
        simp only [if_true, beq_self_eq_true]
        exact blank (by decide)
      · simp only [if_neg e, beq_eq_false_iff_ne.2 e, h3]
        exact i1
    refine ⟨?_, line⟩
    by_cases hb : isBlank c = true
    · simp only [skip, hb, if_true]
      exact blank hb
    · refine Ev.step' ?_
      simp only [lex_lexer_skip.l0, if_pos h1, if_pos h0, h2]
      refine Ev.bind (kind_ev hc) ?_
      simp only [if_neg (mt (kind_blank c).1 hb), peek0 h hn, peek1 h hn, Option.bind_some, List.head?_cons, Option.getD_some, List.tail_cons]
      have j0 : Ev (fun k => lex_lexer_skip.j1 k false s (pos s (c :: r))) (pos s (c :: r)) := Ev.step' (by simp only [lex_lexer_skip.j1, Bool.false_eq_true, if_false]; exact Ev.now _)
      by_cases e : c = 45
      · simp only [if_pos e]
        by_cases e2 : r.head? = some 45
        · have hd : skip true (c :: r) = skip false (c :: r) := by
            simp only [skip, e, e2]; simp [isBlank]
          rw [e2] at *
          simp only [Option.getD_some, beq_self_eq_true]
          rw [← hd]
          refine Ev.step' ?_
          simp only [lex_lexer_skip.j1, if_true]
          exact line
        · have hq : ((r.head?.getD 0) == 45) = false := by
            cases hr : r.head? with
            | none => rfl
            | some d => rw [hr] at e2; simpa using e2
          have hd : skip false (c :: r) = c :: r := by
            simp only [skip, hb]
            cases hr : r.head? with
            | none => simp
            | some d => rw [hr] at e2; simp; intro _ h; exact absurd (by rw [h]) e2
          rw [hq, hd]
          exact j0
      · simp only [if_neg e]
        have hd : skip false (c :: r) = c :: r := by simp [skip, hb, e]
        rw [hd]
        exact j0
  termination_by l => l.length
end Go.Proofs.Ytnnjanhibomijaa.LexImpl
