/- What the lexer's next and Tokens answer, in LexSpec's words. -/
import Derived.Test.YtnnjanhibomijaaLexImpl
import Derived.Lib.Bytes
namespace Go.Proofs.Ytnnjanhibomijaa.LexImpl
open Go.RowKit Go.Proofs.Ytnnjanhibomijaa.A Go.Proofs.YtnnjanhibomijaaW.PrintWords Go.Proofs.Ytnnjanhibomijaa.LexSpec

theorem contains3_all : ∀ c : Fin 256, slices_Contains_int_int.f 10 [2, 3, 4] (kindN ((c.val : Nat) : Int)) = some (isIn ((c.val : Nat) : Int)) := by decide +kernel
theorem contains1_all : ∀ c : Fin 256, slices_Contains_int_int.f 10 [4] (kindN ((c.val : Nat) : Int)) = some (isDigit ((c.val : Nat) : Int)) := by decide +kernel
theorem contains3 {c : Int} (h : 0 ≤ c ∧ c ≤ 255) : Ev (fun k => slices_Contains_int_int.f k [2, 3, 4] (kindN c)) (isIn c) := by
  have := contains3_all ⟨c.toNat, by omega⟩
  rw [show ((c.toNat : Nat) : Int) = c from by omega] at this
  exact Ev.of (fun k => slices_Contains_int_int.mono _ _ k) this
theorem contains1 {c : Int} (h : 0 ≤ c ∧ c ≤ 255) : Ev (fun k => slices_Contains_int_int.f k [4] (kindN c)) (isDigit c) := by
  have := contains1_all ⟨c.toNat, by omega⟩
  rw [show ((c.toNat : Nat) : Int) = c from by omega] at this
  exact Ev.of (fun k => slices_Contains_int_int.mono _ _ k) this

theorem while_ev {s : List Int} (hs : Byt s) (hn : s.length ≤ 140737488351232) (ks : List Int) (p : Int → Bool) (hp : ∀ c, 0 ≤ c ∧ c ≤ 255 → Ev (fun k => slices_Contains_int_int.f k ks (kindN c)) (p c)) :
    ∀ l, l <:+ s → Ev (fun k => lex_lexer_while.l0 k ks s (pos s l)) (pos s (l.dropWhile p))
  | [], h => by
    refine Ev.step' ?_
    simp only [lex_lexer_while.l0, pos_nil, Int.lt_irrefl, if_false, List.dropWhile_nil]
    exact Ev.now _
  | c :: r, h => by
    obtain ⟨h0, h1, h2, h3, h4⟩ := at_cons h hn
    have hc := (hs.suffix h).cons
    refine Ev.step' ?_
    simp only [lex_lexer_while.l0, if_pos h1, if_pos h0, h2]
    refine Ev.bind (kind_ev hc) ?_
    refine Ev.bind (hp c hc) ?_
    cases hpc : p c with
    | true =>
      simp only [if_true, h3, List.dropWhile_cons, hpc]
      exact while_ev hs hn ks p hp r h4
    | false =>
      simp only [Bool.false_eq_true, if_false, List.dropWhile_cons, hpc]
      exact Ev.now _

/-! ### texts -/
theorem bytes_inj : ∀ {s t : List Int}, Byt s → Byt t → (strOfNums s).toList = (strOfNums t).toList → s = t := by
  intro s t hs ht h
  rw [Lib.strOfNums_toList, Lib.strOfNums_toList] at h
  unfold Lib.bytesOf at h
  induction s generalizing t with
  | nil => cases t with
    | nil => rfl
    | cons b t => simp at h
  | cons a s ih => cases t with
    | nil => simp at h
    | cons b t =>
      simp only [List.map_cons, List.cons.injEq] at h
      have ha := hs.cons
      have hb := ht.cons
      have e := congrArg UInt8.toNat h.1
      simp only [UInt8.toNat_ofNat'] at e
      rw [ih hs.tail ht.tail h.2, show a = b from by omega]

theorem wpos_cons {α : Type} {s r : List α} {c d : α} (h : c :: r <:+ s) (hn : s.length ≤ 140737488351232) :
    ∃ i : Nat, s.length - (c :: r).length = i ∧ i < s.length ∧ s.getD i d = c ∧ s.length - r.length = i + 1 ∧ r <:+ s := by
  obtain ⟨p, rfl⟩ := h
  refine ⟨p.length, by simp, by simp, by simp, by simp; omega, ⟨p ++ [c], by simp⟩⟩

theorem index_ev {s : List ByteArray} (hn : s.length ≤ 140737488351232) (a : ByteArray) : ∀ l, l <:+ s →
    ∃ r, Ev (fun k => slices_Index_string_string.l0 k s a (s.length : Int) (((s.length - l.length : Nat)) : Int)) r ∧ (decide (r ≥ 0) = l.any fun b => a.toList == b.toList)
  | [], h => by
    refine ⟨-1, Ev.step' ?_, rfl⟩
    simp only [slices_Index_string_string.l0, List.length_nil, Nat.sub_zero, Int.lt_irrefl, if_false]
    exact Ev.now _
  | c :: r, h => by
    obtain ⟨i, e1, h1, h2, h3, h4⟩ := wpos_cons (d := ByteArray.empty) h hn
    rw [e1]
    have hlt : (i : Int) < (s.length : Int) := by omega
    have hrd : rdOf ByteArray.empty s (i : Int) = c := by unfold rdOf; rw [Int.toNat_natCast]; exact h2
    by_cases e : a.toList = c.toList
    · refine ⟨(i : Int), Ev.step' ?_, by simp [e]⟩
      simp only [slices_Index_string_string.l0, if_pos hlt, if_pos (Int.natCast_nonneg i), hrd, if_pos e]
      exact Ev.now _
    · obtain ⟨r', hr, hq⟩ := index_ev hn a r h4
      refine ⟨r', Ev.step' ?_, by simp [e, hq]⟩
      simp only [slices_Index_string_string.l0, if_pos hlt, if_pos (Int.natCast_nonneg i), hrd, if_neg e]
      rw [h3] at hr
      rw [show wrap64 ((i : Int) + 1) = ((i + 1 : Nat) : Int) from by unfold wrap64; omega]
      exact hr
theorem contains_ev {s : List ByteArray} (hn : s.length ≤ 140737488351232) (a : ByteArray) : Ev (fun k => slices_Contains_string_string.f k s a) (s.any fun b => a.toList == b.toList) := by
  obtain ⟨r, hr, hq⟩ := index_ev hn a s (List.suffix_refl s)
  unfold slices_Contains_string_string.f slices_Index_string_string.f
  rw [Nat.sub_self] at hr
  rw [← hq]
  exact Ev.bind hr (Ev.now _)
theorem word_list : lex_word.list = words.map strOfNums := by rfl
theorem words_byt : ∀ w ∈ words, Byt w := by unfold Byt; decide
theorem word_ev {t : List Int} (ht : Byt t) : Ev (fun k => lex_word.f k (strOfNums t)) (words.contains t) := by
  have e : (lex_word.list.any fun b => (strOfNums t).toList == b.toList) = words.contains t := by
    rw [word_list, List.any_map, Bool.eq_iff_iff, List.any_eq_true, List.contains_iff_mem]
    constructor
    · rintro ⟨w, hw, h⟩
      have := bytes_inj ht (words_byt w hw) (by simpa using h)
      rw [this]; exact hw
    · intro h
      exact ⟨t, h, by simp⟩
  rw [← e]
  exact contains_ev (by rw [word_list]; decide) _

/-! ### next -/
theorem cut_text {s t r : List Int} (h : t ++ r <:+ s) : (s.take (pos s r).toNat).drop (pos s (t ++ r)).toNat = t := by
  obtain ⟨p, rfl⟩ := h
  have e1 : (pos (p ++ (t ++ r)) r).toNat = p.length + t.length := by unfold pos; simp; omega
  have e2 : (pos (p ++ (t ++ r)) (t ++ r)).toNat = p.length := by unfold pos; simp
  rw [e1, e2, ← List.append_assoc, List.take_left' (by simp), List.drop_left' rfl]
theorem pos_mono {s t r : List Int} (h : t ++ r <:+ s) : pos s (t ++ r) ≤ pos s r := by
  obtain ⟨p, rfl⟩ := h
  unfold pos; simp; omega

/-- behind the kind: the text is cut out, and is it a word -/
theorem join_ev {s t r : List Int} (hs : Byt s) (h : t ++ r <:+ s) (kd : Int) :
    Ev (fun k => lex_lexer_next.j1 k s (pos s r) kd (⟨#[]⟩ : ByteArray) (pos s (t ++ r))) (if kd = 1 ∧ words.contains t = true then 4 else kd, strOfNums t, pos s (t ++ r), true, pos s r) := by
  have ht : Byt t := fun x hx => hs x (h.subset (List.mem_append_left _ hx))
  refine Ev.step' ?_
  simp only [lex_lexer_next.j1, if_pos (show 0 ≤ pos s (t ++ r) ∧ pos s (t ++ r) ≤ pos s r ∧ pos s r ≤ (s.length : Int) from ⟨pos_nn, pos_mono h, pos_le⟩), cut_text h]
  by_cases e : kd = 1
  · simp only [if_pos e]
    refine Ev.bind (word_ev ht) (Ev.step' ?_)
    cases hw : words.contains t with
    | true => simp only [lex_lexer_next.j2, if_true, e, and_self]; exact Ev.now _
    | false => simp only [lex_lexer_next.j2, Bool.false_eq_true, if_false, and_false]; exact Ev.now _
  · simp only [e, false_and, if_false]
    refine Ev.step' ?_
    simp only [lex_lexer_next.j2, Bool.false_eq_true, if_false]
    exact Ev.now _

def kindsChk (c : Int) : Bool := (!isSmall c || kindN c == 2) && (!isLarge c || (kindN c == 3 && !isSmall c)) && (!isDigit c || (kindN c == 4 && !isSmall c && !isLarge c)) && (isDigit c == (kindN c == 4)) &&
  (isSmall c || isLarge c || isDigit c || (kindN c != 2 && kindN c != 3 && kindN c != 4 && ((kindN c == 5) == (isSign1 c || c == 33))))
theorem kinds_all : ∀ c : Fin 256, kindsChk ((c.val : Nat) : Int) = true := by decide +kernel
theorem kinds {c : Int} (h : 0 ≤ c ∧ c ≤ 255) : (isSmall c = true → kindN c = 2) ∧ (isLarge c = true → kindN c = 3 ∧ isSmall c = false) ∧ (isDigit c = true → kindN c = 4 ∧ isSmall c = false ∧ isLarge c = false) ∧ (isDigit c = (kindN c == 4)) ∧
    (isSmall c = false → isLarge c = false → isDigit c = false → kindN c ≠ 2 ∧ kindN c ≠ 3 ∧ kindN c ≠ 4 ∧ (kindN c = 5 ↔ (isSign1 c || c == 33) = true)) := by
  have := kinds_all ⟨c.toNat, by omega⟩
  rw [show ((c.toNat : Nat) : Int) = c from by omega] at this
  unfold kindsChk at this
  simp only [Bool.and_eq_true, Bool.or_eq_true, Bool.not_eq_true', beq_iff_eq, bne_iff_ne] at this
  obtain ⟨⟨⟨⟨k1, k2⟩, k3⟩, k4⟩, k5⟩ := this
  refine ⟨fun e => ?_, fun e => ?_, fun e => ?_, k4, fun e1 e2 e3 => ?_⟩
  · simpa [e] using k1
  · simpa [e] using k2
  · simpa [e, and_assoc] using k3
  · simp only [e1, e2, e3, Bool.false_eq_true, false_or] at k5
    obtain ⟨⟨⟨q1, q2⟩, q3⟩, q4⟩ := k5
    refine ⟨q1, q2, q3, ?_⟩
    rw [← q4]; simp

/-- what a sign's bytes come to -/
def punct (c d p : Int) : Bool × Int := if isSign2 c d = true then (true, wrap64 (p + 2)) else if c = 33 then (false, p) else (true, wrap64 (p + 1))
theorem punct_j1 (c p : Int) (s : List Int) (x : Bool) : Ev (fun k => lex_lexer_punctuation.j1 k c x s p) (if x = true then (true, wrap64 (p + 2)) else if c = 33 then (false, p) else (true, wrap64 (p + 1))) := by
  refine Ev.step' ?_
  simp only [lex_lexer_punctuation.j1]
  cases x with
  | true => simp only [if_true]; exact Ev.now _
  | false =>
    simp only [Bool.false_eq_true, if_false]
    by_cases e : c = 33
    · simp only [if_pos e]; exact Ev.now _
    · simp only [if_neg e]; exact Ev.now _
theorem punct_j0 (c d p : Int) (s : List Int) (x : Bool) (hx : (x || ((c == 60 || c == 62 || c == 61 || c == 33) && d == 61)) = isSign2 c d) : Ev (fun k => lex_lexer_punctuation.j0 k c d x s p) (punct c d p) := by
  refine Ev.step' ?_
  simp only [lex_lexer_punctuation.j0]
  unfold punct
  rw [← hx]
  cases x with
  | true =>
    have := punct_j1 c p s true
    simpa only [if_true, Bool.true_or] using this
  | false =>
    have h1 := punct_j1 c p s (d == 61)
    have h0 := punct_j1 c p s false
    simp only [Bool.false_eq_true, if_false, Bool.false_or]
    by_cases e1 : c = 60
    · simp only [if_pos e1, beq_iff_eq.2 e1, Bool.true_or, Bool.true_and]; exact h1
    by_cases e2 : c = 62
    · simp only [if_neg e1, if_pos e2, beq_iff_eq.2 e2, Bool.or_true, Bool.true_or, Bool.true_and]; exact h1
    by_cases e3 : c = 61
    · simp only [if_neg e1, if_neg e2, if_pos e3, beq_iff_eq.2 e3, Bool.or_true, Bool.true_or, Bool.true_and]; exact h1
    by_cases e4 : c = 33
    · simp only [if_neg e1, if_neg e2, if_neg e3, if_pos e4, beq_iff_eq.2 e4, Bool.or_true, Bool.true_and]; rw [if_pos e4] at h1; exact h1
    · simp only [if_neg e1, if_neg e2, if_neg e3, if_neg e4, beq_eq_false_iff_ne.2 e1, beq_eq_false_iff_ne.2 e2, beq_eq_false_iff_ne.2 e3, beq_eq_false_iff_ne.2 e4, Bool.or_false, Bool.false_and, Bool.false_eq_true, if_false] at h0 ⊢
      exact h0
theorem punct_ev {s r : List Int} {c : Int} (h : c :: r <:+ s) (hn : s.length ≤ 140737488351232) : Ev (fun k => lex_lexer_punctuation.f k s (pos s (c :: r))) (punct c (r.head?.getD 0) (pos s (c :: r))) := by
  have p0 := peek0 h hn
  have p1 := peek1 h hn
  generalize pos s (c :: r) = p at *
  rw [List.head?_cons, Option.getD_some] at p0
  rw [List.tail_cons] at p1
  generalize r.head?.getD 0 = d at *
  unfold lex_lexer_punctuation.f
  refine Ev.bind (Ev.ret fun _ => p0) ?_
  refine Ev.bind (Ev.ret fun _ => p1) ?_
  dsimp only
  by_cases e : c = 45
  · simp only [if_pos e]
    exact punct_j0 c d p s _ (by simp [isSign2, e])
  · simp only [if_neg e]
    exact punct_j0 c d p s false (by simp [isSign2, e])

theorem num_text (r : List Int) : (num r).1 ++ (num r).2 = r := by
  unfold num
  split
  · rename_i a d r2 hr
    split
    · rw [List.append_assoc]
      simp only [List.cons_append, List.takeWhile_append_dropWhile]
      rw [← hr, List.takeWhile_append_dropWhile]
    · exact List.takeWhile_append_dropWhile
  · exact List.takeWhile_append_dropWhile

theorem one_text {l t rest : List Int} {kd : Int} (h : one l = some (kd, t, rest)) : t ++ rest = l ∧ t ≠ [] ∧ kd ≠ 0 := by
  unfold one at h
  split at h
  · cases h
  · rename_i c r
    split at h
    · simp only [Option.some.injEq, Prod.mk.injEq] at h
      obtain ⟨rfl, rfl, rfl⟩ := h
      refine ⟨by simp, by simp, ?_⟩
      split
      · decide
      · split <;> decide
    · split at h
      · simp only [Option.some.injEq, Prod.mk.injEq] at h
        obtain ⟨rfl, rfl, rfl⟩ := h
        exact ⟨by rw [List.cons_append, num_text], by simp, by decide⟩
      · split at h
        · split at h
          · simp only [Option.some.injEq, Prod.mk.injEq] at h
            obtain ⟨rfl, rfl, rfl⟩ := h
            exact ⟨rfl, by simp, by decide⟩
          · split at h
            · simp only [Option.some.injEq, Prod.mk.injEq] at h
              obtain ⟨rfl, rfl, rfl⟩ := h
              exact ⟨rfl, by simp, by decide⟩
            · cases h
        · split at h
          · simp only [Option.some.injEq, Prod.mk.injEq] at h
            obtain ⟨rfl, rfl, rfl⟩ := h
            exact ⟨rfl, by simp, by decide⟩
          · cases h

/-- 'next' tells the first token, and goes behind it. -/
def NextSays (s l : List Int) (f : Nat → Option (Int × ByteArray × Int × Bool × Int)) : Option (Int × List Int × List Int) → Prop
  | none => ∃ a b, Ev f (a, (⟨#[]⟩ : ByteArray), pos s l, false, b)
  | some (kd, t, rest) => Ev f (kd, strOfNums t, pos s l, true, pos s rest)
end Go.Proofs.Ytnnjanhibomijaa.LexImpl
