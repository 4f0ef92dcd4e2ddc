/- Rows of tokens: few, right, spelled: what the program says of them. -/
import Derived.Test.YtnnjanhibomijaaAx24
import Derived.Test.YtnnjanhibomijaaAx22
import Derived.Test.YtnnjanhibomijaaAx26
import Derived.Test.YtnnjanhibomijaaLexNext2
namespace Go.Proofs.Ytnnjanhibomijaa.LexImpl
open Go.RowKit Go.Proofs.Ytnnjanhibomijaa.A Go.Proofs.YtnnjanhibomijaaW.PrintWords Go.Proofs.Ytnnjanhibomijaa.LexSpec

abbrev Tk := S31
theorem byt_bytes (s : ByteArray) : Byt (bytesOf s) := by
  intro x hx
  unfold bytesOf at hx
  obtain ⟨b, _, rfl⟩ := List.mem_map.mp hx
  have := b.toNat_lt
  omega
theorem rd_at {s : List Tk} {i : Nat} : rd_T31 s (i : Int) = s.getD i z31 := by unfold rd_T31; rw [Int.toNat_natCast]
theorem few_loop {s : List Tk} (hn : s.length ≤ 300) : ∀ l, l <:+ s → Ev (fun k => foliotlaw04_few.l0 k s (((s.length - l.length : Nat)) : Int)) (l.all fun x => decide (x.f1.size ≤ 100))
  | [], _ => by
    refine Ev.step' ?_
    simp only [foliotlaw04_few.l0, List.length_nil, Nat.sub_zero, Int.lt_irrefl, if_false]
    exact Ev.now _
  | c :: r, h => by
    obtain ⟨i, e1, h1, h2, h3, h4⟩ := wpos_cons (d := z31) h (by omega)
    rw [e1]
    have ih := few_loop hn r h4
    rw [h3] at ih
    refine Ev.step' ?_
    have hw : wrap64 ((i : Int) + 1) = ((i + 1 : Nat) : Int) := by unfold wrap64; omega
    simp only [foliotlaw04_few.l0, rd_at, h2, hw, if_pos (show (i : Int) < (s.length : Int) from by omega), if_pos (Int.natCast_nonneg i)]
    by_cases hc : c.f1.size ≤ 100
    · simp only [if_neg (show ¬ (c.f1.size : Int) > 100 from by omega), List.all_cons, decide_eq_true hc, Bool.true_and]
      exact ih
    · simp only [if_pos (show (c.f1.size : Int) > 100 from by omega), List.all_cons, decide_eq_false hc, Bool.false_and]
      exact Ev.now _
theorem few_ev (s : List Tk) : Ev (fun k => foliotlaw04_few.f k s) (decide (s.length ≤ 300) && s.all fun x => decide (x.f1.size ≤ 100)) := by
  unfold foliotlaw04_few.f
  by_cases h : s.length ≤ 300
  · simp only [if_neg (show ¬ (s.length : Int) > 300 from by omega), decide_eq_true h, Bool.true_and]
    have := few_loop h s (List.suffix_refl _)
    rw [Nat.sub_self] at this
    exact this
  · simp only [if_pos (show (s.length : Int) > 300 from by omega), decide_eq_false h, Bool.false_and]
    exact Ev.now _

/-- is a token the one of its text? -/
def rightSays (x : Tk) : Bool := let bt := tokensSay (bytesOf x.f1); if bt.2.1 = 0 then (if (bt.1.length : Int) = 2 then (if (rd_T31 bt.1 0).f0 = x.f0 then (rd_T31 bt.1 0).f1.toList == x.f1.toList else false) else false) else false
theorem right_tail (x : Tk) : (let bt := tokensSay (bytesOf x.f1); if bt.2.1 = 0 then (if (bt.1.length : Int) = 2 then (if (rd_T31 bt.1 0).f0 = x.f0 then some ((rd_T31 bt.1 0).f1.toList == x.f1.toList) else some false) else some false) else some false) = some (rightSays x) := by
  unfold rightSays
  dsimp only
  split
  · split
    · split <;> rfl
    · rfl
  · rfl
theorem right_lex {x : Tk} (h : x.f1.size ≤ 100) : Ev (fun k => lex_Right.f k x.f0 x.f1 x.f2) (rightSays x) := by
  unfold lex_Right.f
  simp only [if_pos (show x.f1.size ≤ 9223372036854775807 from by omega)]
  refine Ev.bind (tokens_ev (byt_bytes x.f1)) ?_
  have := right_tail x
  dsimp only at this
  simp only [this]
  exact Ev.now _
/-- tokens as a source -/
def spell : List Int → Bool → List Tk → List Int
  | acc, _, [] => acc
  | acc, b, x :: r => if x.f0 = 0 then spell acc b r else if b = true then spell (acc ++ bytesOf x.f1) false r else spell (acc ++ [32] ++ bytesOf x.f1) false r
theorem spell_lex {s : List Tk} (hn : s.length ≤ 300) : ∀ l acc b, l <:+ s → (∀ x ∈ l, x.f1.size ≤ 100) → acc.length + l.length * 101 ≤ 40000 → Ev (fun k => lex_Spell.l0 k acc b s (s.length : Int) (((s.length - l.length : Nat)) : Int)) (spell acc b l)
  | [], acc, b, _, _, _ => by
    refine Ev.step' ?_
    simp only [lex_Spell.l0, List.length_nil, Nat.sub_zero, Int.lt_irrefl, if_false]
    exact Ev.now _
  | c :: r, acc, b, h, hx, ha => by
    obtain ⟨i, e1, h1, h2, h3, h4⟩ := wpos_cons (d := z31) h (by omega)
    rw [e1]
    have hc := hx c (List.mem_cons_self ..)
    have hr : ∀ x ∈ r, x.f1.size ≤ 100 := fun x hm => hx x (List.mem_cons_of_mem _ hm)
    have ih := fun acc b ha => spell_lex hn r acc b h4 hr ha
    rw [h3] at ih
    rw [List.length_cons] at ha
    have hw : wrap64 ((i : Int) + 1) = ((i + 1 : Nat) : Int) := by unfold wrap64; omega
    refine Ev.step' ?_
    simp only [lex_Spell.l0, rd_at, h2, hw, if_pos (show (i : Int) < (s.length : Int) from by omega), if_pos (Int.natCast_nonneg i), spell, Option.bind_some]
    by_cases h0 : c.f0 = 0
    · simp only [if_pos h0]; exact ih acc b (by omega)
    · simp only [if_neg h0]
      by_cases hb : b = true
      · simp only [if_pos hb, if_pos (show acc.length + c.f1.size < 140737488355328 from by omega)]
        exact ih _ _ (by rw [List.length_append, bytesOf_length]; omega)
      · simp only [if_neg hb, if_pos (show acc.length < 140737488355328 from by omega), if_pos (show (acc ++ [32]).length + c.f1.size < 140737488355328 from by rw [List.length_append, List.length_singleton]; omega)]
        exact ih _ _ (by rw [List.length_append, List.length_append, List.length_singleton, bytesOf_length]; omega)
theorem spell_lex_ev {s : List Tk} (hn : s.length ≤ 300) (hx : ∀ x ∈ s, x.f1.size ≤ 100) : Ev (fun k => lex_Spell.f k s) (spell [] true s) := by
  unfold lex_Spell.f
  have := spell_lex hn s [] true (List.suffix_refl _) hx (by simp; omega)
  rw [Nat.sub_self] at this
  exact this
end Go.Proofs.Ytnnjanhibomijaa.LexImpl
