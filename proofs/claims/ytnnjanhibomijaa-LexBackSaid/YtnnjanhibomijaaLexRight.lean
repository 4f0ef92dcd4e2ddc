/- A token's own text is that token; what stands between tokens is none. -/
import Derived.Test.YtnnjanhibomijaaAx22
import Derived.Test.YtnnjanhibomijaaLexMore
import Derived.Test.YtnnjanhibomijaaLexRef
namespace Go.Proofs.Ytnnjanhibomijaa.LexSpec
open Go.Proofs.Ytnnjanhibomijaa.LexImpl

theorem skip_head : ∀ m l c r, skip m l = c :: r → isBlank c = false ∧ (c == 45 && r.head? == some 45) = false
  | false, [], _, _, h => by simp [skip] at h
  | true, [], _, _, h => by simp [skip] at h
  | false, a :: l, c, r, h => by
    rw [skip] at h
    by_cases h1 : isBlank a = true
    · rw [if_pos h1] at h; exact skip_head false l c r h
    · rw [if_neg h1] at h
      by_cases h2 : (a == 45 && l.head? == some 45) = true
      · rw [if_pos h2] at h; exact skip_head true l c r h
      · rw [if_neg h2] at h
        cases h
        exact ⟨by simpa using h1, by simpa using h2⟩
  | true, a :: l, c, r, h => by
    rw [skip] at h
    by_cases h1 : (a == 10) = true
    · rw [if_pos h1] at h; exact skip_head false l c r h
    · rw [if_neg h1] at h; exact skip_head true l c r h
theorem skip_fix {c : Int} {r : List Int} (h1 : isBlank c = false) (h2 : (c == 45 && r.head? == some 45) = false) : skip false (c :: r) = c :: r := by
  rw [skip, h1, h2]; rfl
theorem while_while (p : Int → Bool) : ∀ r : List Int, (r.takeWhile p).takeWhile p = r.takeWhile p ∧ (r.takeWhile p).dropWhile p = []
  | [] => ⟨rfl, rfl⟩
  | c :: r => by
    obtain ⟨h1, h2⟩ := while_while p r
    by_cases h : p c = true
    · rw [List.takeWhile_cons, if_pos h, List.takeWhile_cons, if_pos h, List.dropWhile_cons, if_pos h, h1, h2]; exact ⟨rfl, rfl⟩
    · rw [List.takeWhile_cons, if_neg h]; exact ⟨rfl, rfl⟩
theorem while_app (p : Int → Bool) (a : Int) (s : List Int) (ha : p a = false) : ∀ r : List Int, (r.takeWhile p ++ a :: s).takeWhile p = r.takeWhile p ∧ (r.takeWhile p ++ a :: s).dropWhile p = a :: s
  | [] => by
    rw [List.takeWhile_nil, List.nil_append, List.takeWhile_cons, List.dropWhile_cons, ha]; exact ⟨rfl, rfl⟩
  | c :: r => by
    obtain ⟨h1, h2⟩ := while_app p a s ha r
    by_cases h : p c = true
    · rw [List.takeWhile_cons, if_pos h, List.cons_append, List.takeWhile_cons, if_pos h, List.dropWhile_cons, if_pos h, h1, h2]; exact ⟨rfl, rfl⟩
    · rw [List.takeWhile_cons, if_neg h, List.nil_append, List.takeWhile_cons, List.dropWhile_cons, ha]; exact ⟨rfl, rfl⟩
theorem num_self (r : List Int) : num (num r).1 = ((num r).1, []) := by
  obtain ⟨w1, w2⟩ := while_while isDigit r
  have plain : (num r).1 = r.takeWhile isDigit → num (num r).1 = ((num r).1, []) := by
    intro e
    rw [e]
    unfold num
    rw [w2, w1]
  cases hd : r.dropWhile isDigit with
  | nil => exact plain (by unfold num; rw [hd])
  | cons a r1 => cases r1 with
    | nil => exact plain (by unfold num; rw [hd])
    | cons d r2 =>
      by_cases hc : (a == 46 && isDigit d) = true
      · have e : (num r).1 = r.takeWhile isDigit ++ a :: d :: r2.takeWhile isDigit := by unfold num; rw [hd]; dsimp only; rw [if_pos hc]
        have ha : isDigit a = false := by
          have := (Bool.and_eq_true_iff.mp hc).1
          rw [beq_iff_eq.mp this]; decide
        obtain ⟨h1, h2⟩ := while_app isDigit a (d :: r2.takeWhile isDigit) ha r
        obtain ⟨h3, h4⟩ := while_while isDigit r2
        rw [e]
        unfold num
        rw [h2]
        dsimp only
        rw [if_pos hc, h1, h3, h4]
      · exact plain (by unfold num; rw [hd]; dsimp only; rw [if_neg hc])
theorem one_self {c kd : Int} {r t rest : List Int} (h : one (c :: r) = some (kd, t, rest)) : one t = some (kd, t, []) ∧ ∃ q, t = c :: q ∧ (q = [] ∨ q.head? = r.head?) := by
  unfold one at h
  dsimp only at h
  by_cases ha : (isSmall c || isLarge c) = true
  · rw [if_pos ha] at h
    simp only [Option.some.injEq, Prod.mk.injEq] at h
    obtain ⟨h1, rfl, _⟩ := h
    obtain ⟨w1, w2⟩ := while_while isIn r
    refine ⟨?_, _, rfl, ?_⟩
    · unfold one; dsimp only; rw [if_pos ha, w1, w2, h1]
    · cases r with
      | nil => exact .inl rfl
      | cons d r2 =>
        rw [List.takeWhile_cons]
        split
        · exact .inr rfl
        · exact .inl rfl
  rw [if_neg ha] at h
  by_cases hb : isDigit c = true
  · rw [if_pos hb] at h
    simp only [Option.some.injEq, Prod.mk.injEq] at h
    obtain ⟨h1, rfl, _⟩ := h
    refine ⟨?_, _, rfl, ?_⟩
    · unfold one; dsimp only; rw [if_neg ha, if_pos hb, num_self, h1]
    · have e := num_text r
      cases hq : (num r).1 with
      | nil => exact .inl rfl
      | cons x y => rw [hq] at e; rw [← e]; exact .inr rfl
  rw [if_neg hb] at h
  have single : isSign1 c = true → one [c] = some (5, [c], []) := by
    intro hs
    unfold one; dsimp only; rw [if_neg ha, if_neg hb, if_pos hs]
  cases r with
  | nil =>
    dsimp only at h
    by_cases hs : isSign1 c = true
    · rw [if_pos hs] at h
      simp only [Option.some.injEq, Prod.mk.injEq] at h
      obtain ⟨rfl, rfl, _⟩ := h
      exact ⟨single hs, [], rfl, .inl rfl⟩
    · rw [if_neg hs] at h; cases h
  | cons d r2 =>
    dsimp only at h
    by_cases h2 : isSign2 c d = true
    · rw [if_pos h2] at h
      simp only [Option.some.injEq, Prod.mk.injEq] at h
      obtain ⟨rfl, rfl, _⟩ := h
      refine ⟨?_, [d], rfl, .inr rfl⟩
      unfold one; dsimp only; rw [if_neg ha, if_neg hb, if_pos h2]
    · rw [if_neg h2] at h
      by_cases hs : isSign1 c = true
      · rw [if_pos hs] at h
        simp only [Option.some.injEq, Prod.mk.injEq] at h
        obtain ⟨rfl, rfl, _⟩ := h
        exact ⟨single hs, [], rfl, .inl rfl⟩
      · rw [if_neg hs] at h; cases h
theorem skip_self {l r t rest : List Int} {c kd : Int} (h : skip false l = c :: r) (ho : one (c :: r) = some (kd, t, rest)) : skip false t = t := by
  obtain ⟨h1, h2⟩ := skip_head _ _ _ _ h
  obtain ⟨_, q, rfl, hq⟩ := one_self ho
  refine skip_fix h1 ?_
  rcases hq with rfl | hq
  · simp
  · rw [hq]; exact h2
theorem lexN_self {l r t rest : List Int} {c kd : Int} (h : skip false l = c :: r) (ho : one (c :: r) = some (kd, t, rest)) : lexN t.length t = .inr [(kd, t, 0), (0, [], t.length)] := by
  have hs := skip_self h ho
  obtain ⟨h1, q, rfl, _⟩ := one_self ho
  rw [lexN_step hs h1, lexN_nil (show skip false [] = [] from rfl), List.length_cons, Nat.sub_self]

theorem skip_less : ∀ m l, (skip m l).length ≤ l.length := fun m l => (skip_suffix m l).length_le
theorem skip_pre : ∀ (m : Bool) (g z : List Int), skip m (g ++ z) = z → skip m g = []
  | false, [], _, _ => rfl
  | true, [], _, _ => rfl
  | false, c :: g, z, h => by
    rw [List.cons_append, skip] at h
    rw [skip]
    by_cases h1 : isBlank c = true
    · rw [if_pos h1] at h ⊢; exact skip_pre false g z h
    · rw [if_neg h1] at h ⊢
      cases g with
      | nil =>
        exfalso
        rw [List.nil_append] at h
        split at h
        · rename_i hc
          cases z with
          | nil => simp at hc
          | cons d z =>
            have hd : d = 45 := by simpa using (Bool.and_eq_true_iff.mp hc).2
            rw [skip, if_neg (by rw [hd]; decide)] at h
            have := skip_less true z
            rw [h, List.length_cons] at this
            omega
        · have := congrArg List.length h
          simp at this
      | cons d g =>
        rw [List.cons_append, List.head?_cons] at h
        rw [List.head?_cons]
        by_cases h2 : (c == 45 && some d == some 45) = true
        · rw [if_pos h2] at h ⊢; exact skip_pre true (d :: g) z h
        · rw [if_neg h2] at h
          exfalso
          have := congrArg List.length h
          simp at this
          omega
  | true, c :: g, z, h => by
    rw [List.cons_append, skip] at h
    rw [skip]
    by_cases h1 : (c == 10) = true
    · rw [if_pos h1] at h ⊢; exact skip_pre false g z h
    · rw [if_neg h1] at h ⊢; exact skip_pre true g z h
end Go.Proofs.Ytnnjanhibomijaa.LexSpec
namespace Go.Proofs.Ytnnjanhibomijaa.LexImpl
open Go.RowKit Go.Proofs.Ytnnjanhibomijaa.A Go.Proofs.YtnnjanhibomijaaW.PrintWords Go.Proofs.Ytnnjanhibomijaa.LexSpec
theorem saying {s : List Int} {ts} (hl : s.length ≤ 65536) (h : lexN s.length s = .inr ts) : tokensSay s = (ts.map tok, 0, 0) := by
  unfold tokensSay
  rw [if_neg (by omega), show lex s = .inr ts from h]
theorem faulting {s : List Int} {e : Nat} (hl : s.length ≤ 65536) (h : lexN s.length s = .inl e) : tokensSay s = ([], 40, (e : Int)) := by
  unfold tokensSay
  rw [if_neg (by omega), show lex s = .inl e from h]
theorem right_ev {l r t rest : List Int} {c kd p : Int} (h : skip false l = c :: r) (ho : one (c :: r) = some (kd, t, rest)) (ht : Byt t) (hl : t.length ≤ 65536) : Ev (fun k => lex_Right.f k kd (strOfNums t) p) true := by
  unfold lex_Right.f
  simp only [if_pos (show (strOfNums t).size ≤ 9223372036854775807 from by rw [strOfNums_size]; omega), bytesOf_str ht]
  refine Ev.bind (tokens_ev ht) ?_
  rw [saying hl (lexN_self h ho)]
  have e0 : rd_T31 (List.map tok [(kd, t, 0), (0, [], t.length)]) 0 = ⟨kd, strOfNums t, 0⟩ := rfl
  simp only [e0, if_true, List.length_map, List.length_cons, List.length_nil, show (((0 + 1 + 1 : Nat)) : Int) = 2 from rfl, beq_self_eq_true]
  exact Ev.now _
theorem gap_ev {g z : List Int} (hg : Byt g) (hl : g.length ≤ 65536) (h : skip false (g ++ z) = z) : Ev (fun k => lex_Tokens.f k g) ([⟨0, strOfNums [], (g.length : Int)⟩], 0, 0) := by
  have e := saying hl (lexN_nil (n := g.length) (skip_pre false g z h))
  have := tokens_ev hg
  rw [e] at this
  exact this
end Go.Proofs.Ytnnjanhibomijaa.LexImpl
