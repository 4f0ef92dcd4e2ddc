/- What the lexer's next answers: the first token. -/
import Derived.Test.YtnnjanhibomijaaLexNext
namespace Go.Proofs.Ytnnjanhibomijaa.LexImpl
open Go.RowKit Go.Proofs.Ytnnjanhibomijaa.A Go.Proofs.YtnnjanhibomijaaW.PrintWords Go.Proofs.Ytnnjanhibomijaa.LexSpec

theorem next_in {s r : List Int} {c : Int} (hs : Byt s) (hn : s.length ≤ 140737488351232) (h : c :: r <:+ s) (kd : Int) (hk : kindN c = 2 ∧ kd = 1 ∨ kindN c = 3 ∧ kd = 2) (hi : isIn c = true) :
    Ev (fun k => lex_lexer_next.f k s (pos s (c :: r))) (if kd = 1 ∧ words.contains (c :: r.takeWhile isIn) = true then 4 else kd, strOfNums (c :: r.takeWhile isIn), pos s (c :: r), true, pos s (r.dropWhile isIn)) := by
  obtain ⟨h0, h1, h2, h3, h4⟩ := at_cons h hn
  have hc := (hs.suffix h).cons
  have w := while_ev hs hn [2, 3, 4] isIn (fun _ => contains3) (c :: r) h
  rw [List.dropWhile_cons, if_pos hi] at w
  have e : c :: r = (c :: r.takeWhile isIn) ++ r.dropWhile isIn := by simp
  have j := fun kd => join_ev hs (t := c :: r.takeWhile isIn) (r := r.dropWhile isIn) (e ▸ h) kd
  rw [← e] at j
  unfold lex_lexer_next.f lex_lexer_while.f
  generalize pos s (c :: r) = p at *
  generalize pos s (r.dropWhile isIn) = q at *
  simp only [if_pos h0, if_pos h1, h2]
  refine Ev.bind (kind_ev hc) ?_
  rcases hk with ⟨hk, rfl⟩ | ⟨hk, rfl⟩
  · have j1 := j 1
    simp only [hk, if_true, true_and] at j1 ⊢
    exact Ev.bind w j1
  · have j2 := j 2
    simp only [hk, show ¬ (3 : Int) = 2 from by decide, show ¬ (2 : Int) = 1 from by decide, false_and, if_false, if_true] at j2 ⊢
    exact Ev.bind w j2

theorem num_a {r : List Int} (h : r.dropWhile isDigit = []) : (num r).2 = [] := by unfold num; rw [h]
theorem num_b {r : List Int} {a : Int} (h : r.dropWhile isDigit = [a]) : (num r).2 = [a] := by unfold num; rw [h]
theorem num_c {r r2 : List Int} {a d : Int} (h : r.dropWhile isDigit = a :: d :: r2) (hc : (a == 46 && isDigit d) = true) : (num r).2 = r2.dropWhile isDigit := by unfold num; rw [h]; dsimp only; rw [if_pos hc]
theorem num_d {r r2 : List Int} {a d : Int} (h : r.dropWhile isDigit = a :: d :: r2) (hc : (a == 46 && isDigit d) = false) : (num r).2 = a :: d :: r2 := by unfold num; rw [h]; dsimp only; rw [if_neg (by rw [hc]; decide)]
theorem digit_zero : isDigit 0 = false := by decide
theorem next_num {s r : List Int} {c : Int} (hs : Byt s) (hn : s.length ≤ 140737488351232) (h : c :: r <:+ s) (hk : kindN c = 4) (hi : isDigit c = true) :
    Ev (fun k => lex_lexer_next.f k s (pos s (c :: r))) (3, strOfNums (c :: (num r).1), pos s (c :: r), true, pos s (num r).2) := by
  obtain ⟨h0, h1, h2, h3, h4⟩ := at_cons h hn
  have hc := (hs.suffix h).cons
  have w := while_ev hs hn [4] isDigit (fun _ => contains1) (c :: r) h
  rw [List.dropWhile_cons, if_pos hi] at w
  have e : c :: r = (c :: (num r).1) ++ (num r).2 := by rw [List.cons_append, num_text]
  have j := join_ev hs (t := c :: (num r).1) (r := (num r).2) (e ▸ h) 3
  rw [← e] at j
  simp only [show ¬ (3 : Int) = 1 from by decide, false_and, if_false] at j
  have hd : r.dropWhile isDigit <:+ s := (List.dropWhile_suffix _).trans h4
  have p0 := peek0 hd hn
  have p1 := peek1 hd hn
  have j0 : ∀ (x : Bool) (q : List Int), (x = false → q = (num r).2) → (x = true → ∃ a q', q = a :: q' ∧ q <:+ s ∧ (num r).2 = q'.dropWhile isDigit) → Ev (fun k => lex_lexer_next.j0 k x s (pos s q) 3 (⟨#[]⟩ : ByteArray) (pos s (c :: r))) (3, strOfNums (c :: (num r).1), pos s (c :: r), true, pos s (num r).2) := by
    intro x q hf ht
    refine Ev.step' ?_
    cases x with
    | false =>
      simp only [lex_lexer_next.j0, Bool.false_eq_true, if_false]
      rw [hf rfl]; exact j
    | true =>
      obtain ⟨a, q', rfl, hq, h9⟩ := ht rfl
      obtain ⟨_, _, _, g3, g4⟩ := at_cons hq hn
      simp only [lex_lexer_next.j0, if_true, g3]
      have w2 := while_ev hs hn [4] isDigit (fun _ => contains1) q' g4
      rw [← h9] at w2
      unfold lex_lexer_while.f
      exact Ev.bind w2 j
  have key : Ev (fun k => (lex_lexer_peek.f s (pos s (r.dropWhile isDigit)) 0).bind fun bt136 => (if bt136.1 = 46 then ((lex_lexer_peek.f s bt136.2 1).bind fun bt138 => ((lex_kind.f k bt138.1).bind fun t140 => (lex_lexer_next.j0 k (t140 == 4) s bt138.2 3 (⟨#[]⟩ : ByteArray) (pos s (c :: r))))) else (lex_lexer_next.j0 k false s bt136.2 3 (⟨#[]⟩ : ByteArray) (pos s (c :: r))))) (3, strOfNums (c :: (num r).1), pos s (c :: r), true, pos s (num r).2) := by
    have hbyt := hs.suffix hd
    cases hq : r.dropWhile isDigit with
    | nil =>
      rw [hq] at p0 p1
      have j1 := j0 false [] (fun _ => (num_a hq).symm) (fun x => by cases x)
      refine Ev.bind (Ev.ret fun _ => p0) ?_
      exact j1
    | cons a q1 =>
      rw [hq] at p0 p1 hbyt hd
      cases q1 with
      | nil =>
        have j1 := j0 false [a] (fun _ => (num_b hq).symm) (fun x => by cases x)
        generalize pos s [a] = q at *
        refine Ev.bind (Ev.ret fun _ => p0) ?_
        dsimp only
        by_cases ea : [a].head?.getD 0 = 46
        · rw [List.tail_cons] at p1
          simp only [if_pos ea]
          refine Ev.bind (Ev.ret fun _ => p1) ?_
          have kz := kind_ev (c := 0) (by decide)
          exact Ev.bind kz (by rw [show (kindN 0 == 4) = false from by decide]; exact j1)
        · simp only [if_neg ea]; exact j1
      | cons d r2 =>
        have hdc := hbyt.tail.cons
        by_cases ea : a = 46
        · by_cases ed : isDigit d = true
          · have cond : (a == 46 && isDigit d) = true := by simp [ea, ed]
            have j1 := j0 true (a :: d :: r2) (fun x => by cases x) (fun _ => ⟨a, d :: r2, rfl, hd, by rw [num_c hq cond, List.dropWhile_cons, if_pos ed]⟩)
            generalize pos s (a :: d :: r2) = q at *
            refine Ev.bind (Ev.ret fun _ => p0) ?_
            dsimp only [List.head?_cons, Option.getD_some]
            simp only [if_pos ea]
            refine Ev.bind (Ev.ret fun _ => p1) ?_
            dsimp only [List.head?_cons, Option.getD_some, List.tail_cons]
            refine Ev.bind (kind_ev hdc) ?_
            rw [← (kinds hdc).2.2.2.1, ed]; exact j1
          · have cond : (a == 46 && isDigit d) = false := by simp [ed]
            have j1 := j0 false (a :: d :: r2) (fun _ => (num_d hq cond).symm) (fun x => by cases x)
            generalize pos s (a :: d :: r2) = q at *
            refine Ev.bind (Ev.ret fun _ => p0) ?_
            dsimp only [List.head?_cons, Option.getD_some]
            simp only [if_pos ea]
            refine Ev.bind (Ev.ret fun _ => p1) ?_
            dsimp only [List.head?_cons, Option.getD_some, List.tail_cons]
            refine Ev.bind (kind_ev hdc) ?_
            rw [← (kinds hdc).2.2.2.1, show isDigit d = false from by simpa using ed]; exact j1
        · have cond : (a == 46 && isDigit d) = false := by simp [ea]
          have j1 := j0 false (a :: d :: r2) (fun _ => (num_d hq cond).symm) (fun x => by cases x)
          generalize pos s (a :: d :: r2) = q at *
          refine Ev.bind (Ev.ret fun _ => p0) ?_
          dsimp only [List.head?_cons, Option.getD_some]
          simp only [if_neg ea]
          exact j1
  unfold lex_lexer_next.f lex_lexer_while.f
  generalize pos s (c :: r) = p at *
  generalize pos s (r.dropWhile isDigit) = q at *
  simp only [if_pos h0, if_pos h1, h2]
  refine Ev.bind (kind_ev hc) ?_
  simp only [hk, show ¬ (4 : Int) = 2 from by decide, show ¬ (4 : Int) = 3 from by decide, if_false, if_true]
  exact Ev.bind w key

theorem next_ev {s r : List Int} {c : Int} (hs : Byt s) (hn : s.length ≤ 140737488351232) (h : c :: r <:+ s) : NextSays s (c :: r) (fun k => lex_lexer_next.f k s (pos s (c :: r))) (one (c :: r)) := by
  obtain ⟨h0, h1, h2, h3, h4⟩ := at_cons h hn
  have hc := (hs.suffix h).cons
  obtain ⟨k1, k2, k3, k4, k5⟩ := kinds hc
  unfold one
  by_cases es : isSmall c = true
  · have := next_in hs hn h 1 (.inl ⟨k1 es, rfl⟩) (by simp [isIn, es])
    simp only [es, Bool.true_or, if_true, NextSays]
    simpa using this
  by_cases el : isLarge c = true
  · have := next_in hs hn h 2 (.inr ⟨(k2 el).1, rfl⟩) (by simp [isIn, el])
    simp only [es, el, Bool.or_true, if_true, Bool.false_eq_true, if_false, NextSays]
    have hw : words.contains (c :: r.takeWhile isIn) = false := by
      rw [Bool.eq_false_iff]
      intro hm
      have hm := List.contains_iff_mem.1 hm
      have : ∀ w ∈ words, isLarge (w.headD 0) = false := by decide
      have := this _ hm
      simp only [List.headD_cons] at this
      rw [el] at this; cases this
    rw [hw] at this ⊢
    simpa using this
  by_cases ed : isDigit c = true
  · have := next_num hs hn h (k3 ed).1 ed
    simp only [es, el, ed, Bool.or_self, Bool.false_eq_true, if_false, if_true, NextSays]
    exact this
  have es' : isSmall c = false := by simpa using es
  have el' : isLarge c = false := by simpa using el
  have ed' : isDigit c = false := by simpa using ed
  obtain ⟨n2, n3, n4, n5⟩ := k5 es' el' ed'
  simp only [es', el', ed', Bool.or_self, Bool.false_eq_true, if_false]
  have pe := punct_ev h hn
  have j1 : ∀ t rest, t ++ rest = c :: r → Ev (fun k => lex_lexer_next.j1 k s (pos s rest) 5 (⟨#[]⟩ : ByteArray) (pos s (c :: r))) (5, strOfNums t, pos s (c :: r), true, pos s rest) := by
    intro t rest e
    have := join_ev hs (t := t) (r := rest) (e ▸ h) 5
    rw [e] at this
    simpa only [show ¬ (5 : Int) = 1 from by decide, false_and, if_false] using this
  -- what the walk of 'next' comes to, by the sign
  have fin : ∀ x : Option (Int × List Int × List Int), (kindN c = 5 → (match x with
      | none => (punct c (r.head?.getD 0) (pos s (c :: r))).1 = false
      | some (kd, t, rest) => kd = 5 ∧ t ++ rest = c :: r ∧ punct c (r.head?.getD 0) (pos s (c :: r)) = (true, pos s rest))) → (kindN c ≠ 5 → x = none) →
      NextSays s (c :: r) (fun k => lex_lexer_next.f k s (pos s (c :: r))) x := by
    intro x hx hx0
    by_cases e5 : kindN c = 5
    · have hx := hx e5
      cases x with
      | none =>
        dsimp only at hx
        generalize punct c (r.head?.getD 0) (pos s (c :: r)) = pq at *
        obtain ⟨b, q⟩ := pq
        dsimp only at hx
        subst hx
        refine ⟨5, q, ?_⟩
        unfold lex_lexer_next.f
        generalize pos s (c :: r) = p at *
        simp only [if_pos h0, if_pos h1, h2]
        refine Ev.bind (kind_ev hc) ?_
        simp only [e5, show ¬ (5 : Int) = 2 from by decide, show ¬ (5 : Int) = 3 from by decide, show ¬ (5 : Int) = 4 from by decide, if_false, if_true]
        refine Ev.bind pe ?_
        simp only [Bool.false_eq_true, if_false]
        exact Ev.now _
      | some y =>
        obtain ⟨kd, t, rest⟩ := y
        obtain ⟨rfl, ht, hq⟩ := hx
        have j := j1 t rest ht
        rw [hq] at pe
        show Ev _ _
        unfold lex_lexer_next.f
        generalize pos s (c :: r) = p at *
        generalize pos s rest = q at *
        simp only [if_pos h0, if_pos h1, h2]
        refine Ev.bind (kind_ev hc) ?_
        simp only [e5, show ¬ (5 : Int) = 2 from by decide, show ¬ (5 : Int) = 3 from by decide, show ¬ (5 : Int) = 4 from by decide, if_false, if_true]
        refine Ev.bind pe ?_
        simp only [if_true]
        exact j
    · rw [hx0 e5]
      refine ⟨0, pos s (c :: r), ?_⟩
      unfold lex_lexer_next.f
      generalize pos s (c :: r) = p at *
      simp only [if_pos h0, if_pos h1, h2]
      refine Ev.bind (kind_ev hc) ?_
      simp only [if_neg n2, if_neg n3, if_neg n4, if_neg e5]
      exact Ev.now _
  refine fin _ ?_ ?_
  · intro e5
    have hs5 := n5.1 e5
    cases r with
    | nil =>
      dsimp only
      have s2 : isSign2 c 0 = false := by simp [isSign2]
      by_cases s1 : isSign1 c = true
      · simp only [s1, if_true]
        refine ⟨by trivial, rfl, ?_⟩
        have ne : c ≠ 33 := by rintro rfl; revert s1; decide
        unfold punct
        simp only [List.head?_nil, Option.getD_none, s2, Bool.false_eq_true, if_false, if_neg ne, h3]
      · simp only [s1, Bool.false_eq_true, if_false]
        have e33 : c = 33 := by simpa [s1] using hs5
        unfold punct
        simp only [List.head?_nil, Option.getD_none, s2, Bool.false_eq_true, if_false, if_pos e33]
    | cons d r2 =>
      dsimp only
      obtain ⟨g0, g1, g2, g3, g4⟩ := at_cons h4 hn
      by_cases s2 : isSign2 c d = true
      · simp only [s2, if_true]
        refine ⟨by trivial, rfl, ?_⟩
        unfold punct
        simp only [List.head?_cons, Option.getD_some, s2, if_true]
        have : wrap64 (pos s (c :: d :: r2) + 2) = pos s r2 := by
          obtain ⟨p, rfl⟩ := h
          simp only [List.length_append, List.length_cons] at hn
          have e1 : pos (p ++ c :: d :: r2) (c :: d :: r2) = (p.length : Int) := by unfold pos; simp
          have e2 : pos (p ++ c :: d :: r2) r2 = (p.length : Int) + 2 := by unfold pos; simp; omega
          rw [e1, e2]; unfold wrap64; omega
        rw [this]
      · simp only [s2, Bool.false_eq_true, if_false]
        have s2' : isSign2 c d = false := by simpa using s2
        by_cases s1 : isSign1 c = true
        · simp only [s1, if_true]
          refine ⟨by trivial, rfl, ?_⟩
          have ne : c ≠ 33 := by rintro rfl; revert s1; decide
          unfold punct
          simp only [List.head?_cons, Option.getD_some, s2', Bool.false_eq_true, if_false, if_neg ne, h3]
        · simp only [s1, Bool.false_eq_true, if_false]
          have e33 : c = 33 := by simpa [s1] using hs5
          unfold punct
          simp only [List.head?_cons, Option.getD_some, s2', Bool.false_eq_true, if_false, if_pos e33]
  · intro e5
    have hns : (isSign1 c || c == 33) = false := by
      rw [Bool.eq_false_iff]; exact fun hh => e5 (n5.2 hh)
    have s1 : isSign1 c = false := by cases hq : isSign1 c with
      | false => rfl
      | true => rw [hq] at hns; simp at hns
    have n33 : c ≠ 33 := by rintro rfl; revert hns; decide
    have ns : ∀ d, isSign2 c d = false := by
      intro d
      have hm : ∀ x ∈ ([45, 60, 62, 61] : List Int), c ≠ x := by
        intro x hx e
        subst e
        revert s1
        revert hx
        generalize c = c'
        intro hx
        simp only [List.mem_cons, List.not_mem_nil, or_false] at hx
        rcases hx with rfl | rfl | rfl | rfl <;> decide
      have a1 := hm 45 (by simp)
      have a2 := hm 60 (by simp)
      have a3 := hm 62 (by simp)
      have a4 := hm 61 (by simp)
      simp [isSign2, a1, a2, a3, a4, n33]
    cases r with
    | nil => simp only [s1, Bool.false_eq_true, if_false]
    | cons d r2 => simp only [s1, ns d, Bool.false_eq_true, if_false]

theorem skip_suffix : ∀ m l, skip m l <:+ l
  | false, [] => List.suffix_refl _
  | true, [] => List.suffix_refl _
  | false, c :: r => by
    unfold skip
    split
    · exact (skip_suffix false r).trans (List.suffix_cons _ _)
    · split
      · exact (skip_suffix true r).trans (List.suffix_cons _ _)
      · exact List.suffix_refl _
  | true, c :: r => by
    unfold skip
    split
    · exact (skip_suffix false r).trans (List.suffix_cons _ _)
    · exact (skip_suffix true r).trans (List.suffix_cons _ _)

def tok (x : Int × List Int × Nat) : S31 := ⟨x.1, strOfNums x.2.1, (x.2.2 : Int)⟩
def loopSays (acc : List S31) (b : Int) : Nat ⊕ List (Int × List Int × Nat) → List S31 × Int × Int × Int
  | .inl e => ([], 40, (e : Int), b)
  | .inr ts => (acc ++ ts.map tok, 0, 0, b)

theorem tokens_loop {s : List Int} (hs : Byt s) (hn : s.length ≤ 65536) : ∀ f l acc, l <:+ s → l.length < f → acc.length + l.length ≤ s.length →
    ∃ b, Ev (fun k => lex_Tokens.l0 k s acc s (pos s (skip false l))) (loopSays acc b (lexF s.length f l))
  | 0, l, acc, h, hf, ha => by omega
  | f + 1, l, acc, h, hf, ha => by
    have hk : skip false l <:+ s := (skip_suffix false l).trans h
    have hlen := (skip_suffix false l).length_le
    unfold lexF
    cases hq : skip false l with
    | nil =>
      refine ⟨s.length, Ev.step' ?_⟩
      rw [hq] at *
      simp only [lex_Tokens.l0, pos_nil, Int.lt_irrefl, if_false, if_pos (show acc.length < 4398046511104 from by omega), loopSays, List.map_cons, List.map_nil, tok]
      exact Ev.now _
    | cons c r =>
      rw [hq] at hk hlen
      obtain ⟨h0, h1, h2, h3, h4⟩ := at_cons hk (by omega)
      have ne := next_ev hs (by omega) hk
      have hpos : pos s (c :: r) = ((s.length - (r.length + 1) : Nat) : Int) := rfl
      cases ho : one (c :: r) with
      | none =>
        rw [ho] at ne
        obtain ⟨a, b, ne⟩ := ne
        refine ⟨b, Ev.step' ?_⟩
        simp only [ho, loopSays]
        rw [← hpos]
        generalize pos s (c :: r) = p at *
        simp only [lex_Tokens.l0, if_pos h1]
        refine Ev.bind ne ?_
        simp only [Bool.false_eq_true, if_false]
        exact Ev.now _
      | some y =>
        obtain ⟨kd, t, rest⟩ := y
        rw [ho] at ne
        obtain ⟨ht, htn, _⟩ := one_text ho
        have hrest : rest <:+ s := List.IsSuffix.trans ⟨t, ht⟩ hk
        have hl2 : rest.length + 1 ≤ (c :: r).length := by
          rw [← ht, List.length_append]
          cases t with
          | nil => exact absurd rfl htn
          | cons => simp; omega
        obtain ⟨b, ih⟩ := tokens_loop hs hn f rest (acc ++ [⟨kd, strOfNums t, pos s (c :: r)⟩]) hrest (by omega) (by simp only [List.length_append, List.length_singleton]; omega)
        refine ⟨b, Ev.step' ?_⟩
        have sk := (skip_ev hs (by omega) rest hrest).1
        simp only [NextSays] at ne
        have go : Ev (fun k => lex_Tokens.l0 (k + 1) s acc s (pos s (c :: r))) (loopSays (acc ++ [⟨kd, strOfNums t, pos s (c :: r)⟩]) b (lexF s.length f rest)) := by
          generalize pos s (c :: r) = p at *
          generalize pos s (skip false rest) = p2 at *
          generalize pos s rest = p3 at *
          simp only [lex_Tokens.l0, if_pos h1]
          refine Ev.bind ne ?_
          simp only [if_true, if_pos (show acc.length < 4398046511104 from by omega)]
          unfold lex_lexer_skip.f
          exact Ev.bind sk ih
        simp only [ho]
        cases hx : lexF s.length f rest with
        | inl e =>
          rw [hx] at go
          exact go
        | inr ts =>
          rw [hx] at go
          simp only [loopSays, List.map_cons, tok] at go ⊢
          rw [List.append_assoc, List.singleton_append, hpos] at go
          rw [hpos]
          exact go

/-- what 'Tokens' answers -/
def tokensSay (s : List Int) : List S31 × Int × Int := if s.length > 65536 then ([], 2, 65536) else match lex s with
  | .inl e => ([], 40, (e : Int))
  | .inr ts => (ts.map tok, 0, 0)
theorem tokens_ev {s : List Int} (hs : Byt s) : Ev (fun k => lex_Tokens.f k s) (tokensSay s) := by
  unfold lex_Tokens.f tokensSay
  by_cases hl : s.length > 65536
  · simp only [if_pos hl, if_pos (show (s.length : Int) > 65536 from by omega)]
    exact Ev.now _
  · simp only [if_neg hl, if_neg (show ¬ (s.length : Int) > 65536 from by omega)]
    obtain ⟨b, h⟩ := tokens_loop hs (by omega) (s.length + 1) s [] (List.suffix_refl _) (by omega) (by simp)
    have sk := (skip_ev hs (by omega) s (List.suffix_refl _)).1
    rw [show pos s s = 0 from by simp [pos]] at sk
    have e : (match lex s with | .inl e => ([], 40, (e : Int)) | .inr ts => (ts.map tok, 0, 0) : List S31 × Int × Int) = ((loopSays [] b (lexF s.length (s.length + 1) s)).1, (loopSays [] b (lexF s.length (s.length + 1) s)).2.1, (loopSays [] b (lexF s.length (s.length + 1) s)).2.2.1) := by
      show (match lexF s.length (s.length + 1) s with | .inl e => ([], 40, (e : Int)) | .inr ts => (ts.map tok, 0, 0) : List S31 × Int × Int) = _
      cases lexF s.length (s.length + 1) s with
      | inl e => rfl
      | inr ts => simp [loopSays]
    rw [e]
    refine Ev.bind (f := fun _ (r : List S31 × Int × Int × Int) => some (r.1, r.2.1, r.2.2.1)) ?_ (Ev.now _)
    unfold lex_lexer_skip.f
    exact Ev.bind sk h
end Go.Proofs.Ytnnjanhibomijaa.LexImpl
