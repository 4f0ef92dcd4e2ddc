/- How any tokens are spelled, and which are right. -/
import Derived.Test.YtnnjanhibomijaaAx28
import Derived.Test.YtnnjanhibomijaaLexAwake
import Derived.Test.YtnnjanhibomijaaAx25
import Derived.Test.YtnnjanhibomijaaAx27
import Derived.Test.YtnnjanhibomijaaLexRef
import Derived.Test.YtnnjanhibomijaaLexSpell
namespace Go.Proofs.Ytnnjanhibomijaa.LexImpl
open Go.RowKit Go.Proofs.Ytnnjanhibomijaa.A Go.Proofs.YtnnjanhibomijaaW.PrintWords Go.Proofs.Ytnnjanhibomijaa.LexSpec

theorem right_ref {x : Tk} (h : x.f1.size ≤ 100) : Ev (fun k => foliotref04_Right.f k x.f0 x.f1 x.f2) (rightSays x) := by
  unfold foliotref04_Right.f
  simp only [if_pos (show x.f1.size ≤ 9223372036854775807 from by omega)]
  refine Ev.bind (ref_ev (byt_bytes x.f1)) ?_
  have := right_tail x
  dsimp only at this
  simp only [this]
  exact Ev.now _

theorem spell_ref {s : List Tk} (hn : s.length ≤ 300) : ∀ l acc b, l <:+ s → (∀ x ∈ l, x.f1.size ≤ 100) → acc.length + l.length * 101 ≤ 40000 → Ev (fun k => foliotref04_Spell.l0 k s acc b (((s.length - l.length : Nat)) : Int)) (spell acc b l)
  | [], acc, b, _, _, _ => by
    refine Ev.step' ?_
    simp only [foliotref04_Spell.l0, List.length_nil, Nat.sub_zero, Int.lt_irrefl, if_false]
    exact Ev.now _
  | c :: r, acc, b, h, hx, ha => by
    obtain ⟨i, e1, h1, h2, h3, h4⟩ := wpos_cons (d := z31) h (by omega)
    rw [e1]
    have hc := hx c (List.mem_cons_self ..)
    have hr : ∀ x ∈ r, x.f1.size ≤ 100 := fun x hm => hx x (List.mem_cons_of_mem _ hm)
    have ih := fun acc b ha => spell_ref hn r acc b h4 hr ha
    rw [h3] at ih
    rw [List.length_cons] at ha
    have hw : wrap64 ((i : Int) + 1) = ((i + 1 : Nat) : Int) := by unfold wrap64; omega
    refine Ev.step' ?_
    simp only [foliotref04_Spell.l0, rd_at, h2, hw, if_pos (show (i : Int) < (s.length : Int) from by omega), if_pos (Int.natCast_nonneg i), spell, Option.bind_some]
    by_cases h0 : c.f0 = 0
    · simp only [if_pos h0]; exact ih acc b (by omega)
    · simp only [if_neg h0]
      by_cases hb : b = true
      · simp only [if_pos hb, if_pos (show acc.length + c.f1.size < 140737488355328 from by omega)]
        exact ih _ _ (by rw [List.length_append, bytesOf_length]; omega)
      · simp only [if_neg hb, if_pos (show acc.length < 140737488355328 from by omega), if_pos (show (acc ++ [32]).length + c.f1.size < 140737488355328 from by rw [List.length_append, List.length_singleton]; omega)]
        exact ih _ _ (by rw [List.length_append, List.length_append, List.length_singleton, bytesOf_length]; omega)
theorem spell_ref_ev {s : List Tk} (hn : s.length ≤ 300) (hx : ∀ x ∈ s, x.f1.size ≤ 100) : Ev (fun k => foliotref04_Spell.f k s) (spell [] true s) := by
  unfold foliotref04_Spell.f
  have := spell_ref hn s [] true (List.suffix_refl _) hx (by simp; omega)
  rw [Nat.sub_self] at this
  exact this
end Go.Proofs.Ytnnjanhibomijaa.LexImpl

namespace Go.Proofs.Ytnnjanhibomijaa.Pure
open Go.RowKit Go.Proofs.Ytnnjanhibomijaa.A Go.Proofs.YtnnjanhibomijaaW.PrintWords Go.Proofs.Ytnnjanhibomijaa.LexImpl Go.Proofs.Ytnnjanhibomijaa.LexSpec

theorem spells_loop {s : List Tk} (hn : s.length ≤ 300) (hs : ∀ x ∈ s, x.f1.size ≤ 100) : ∀ l, l <:+ s → Ev (fun k => foliotlaw04_LexSpells.l0 k s (((s.length - l.length : Nat)) : Int)) true
  | [], _ => by
    refine Ev.step' ?_
    simp only [foliotlaw04_LexSpells.l0, List.length_nil, Nat.sub_zero, Int.lt_irrefl, if_false]
    refine Ev.bind (spell_lex_ev hn hs) ?_
    refine Ev.bind (spell_ref_ev hn hs) ?_
    simp only [if_true]
    exact Ev.bind awake_ev (Ev.now _)
  | c :: r, h => by
    obtain ⟨i, e1, h1, h2, h3, h4⟩ := wpos_cons (d := z31) h (by omega)
    rw [e1]
    have ih := spells_loop hn hs r h4
    rw [h3] at ih
    have hc := hs c (h.subset (List.mem_cons_self ..))
    have hw : wrap64 ((i : Int) + 1) = ((i + 1 : Nat) : Int) := by unfold wrap64; omega
    refine Ev.step' ?_
    simp only [foliotlaw04_LexSpells.l0, rd_at, h2, hw, if_pos (show (i : Int) < (s.length : Int) from by omega), if_pos (Int.natCast_nonneg i)]
    refine Ev.bind (right_lex hc) ?_
    refine Ev.bind (right_ref hc) ?_
    simp only [bne_self_eq_false, Bool.false_eq_true, if_false]
    exact ih
theorem LexSpells (s : List Tk) : ∃ k, foliotlaw04_LexSpells.f k s = some true := by
  refine Ev.rounds (g := fun k => foliotlaw04_LexSpells.f k s) ?_
  unfold foliotlaw04_LexSpells.f
  refine Ev.bind (few_ev s) ?_
  cases hf : (decide (s.length ≤ 300) && s.all fun x => decide (x.f1.size ≤ 100)) with
  | false => simp only [Bool.false_eq_true, if_false]; exact Ev.now _
  | true =>
    simp only [if_true]
    obtain ⟨h1, h2⟩ := Bool.and_eq_true_iff.mp hf
    have := spells_loop (of_decide_eq_true h1) (fun x hx => of_decide_eq_true (List.all_eq_true.mp h2 x hx)) s (List.suffix_refl _)
    rw [Nat.sub_self] at this
    exact this
end Go.Proofs.Ytnnjanhibomijaa.Pure
