/- Right tokens, spelled, are these tokens again. -/
import Derived.Test.YtnnjanhibomijaaAx29
import Derived.Test.YtnnjanhibomijaaLexAwake
import Derived.Test.YtnnjanhibomijaaLexSpell
import Derived.Test.YtnnjanhibomijaaLexRight
namespace Go.Proofs.Ytnnjanhibomijaa.LexSpec
open Go.Proofs.Ytnnjanhibomijaa.LexImpl
theorem while_join32 (p : Int → Bool) (hp : p 32 = false) (b : List Int) : ∀ r, (r ++ 32 :: b).takeWhile p = r.takeWhile p ∧ (r ++ 32 :: b).dropWhile p = r.dropWhile p ++ 32 :: b
  | [] => by constructor <;> simp [hp]
  | c :: r => by
    obtain ⟨h1, h2⟩ := while_join32 p hp b r
    rw [List.cons_append, List.takeWhile_cons, List.takeWhile_cons, List.dropWhile_cons, List.dropWhile_cons, h1, h2]
    cases p c <;> simp
theorem num_join32 (b r : List Int) : num (r ++ 32 :: b) = ((num r).1, (num r).2 ++ 32 :: b) := by
  obtain ⟨h1, h2⟩ := while_join32 isDigit (by decide) b r
  unfold num
  rw [h1, h2]
  cases hd : r.dropWhile isDigit with
  | nil => cases b with
    | nil => rfl
    | cons d r2 => rw [List.nil_append]; simp
  | cons a r1 => cases r1 with
    | nil => simp [show isDigit 32 = false from by decide]
    | cons d r2 =>
      simp only [List.cons_append]
      obtain ⟨h3, h4⟩ := while_join32 isDigit (by decide) b r2
      by_cases hc : (a == 46 && isDigit d) = true
      · rw [if_pos hc, if_pos hc, h3, h4]
      · rw [if_neg hc, if_neg hc]; rfl
theorem one_join32 (b r : List Int) (c : Int) : one (c :: (r ++ 32 :: b)) = (one (c :: r)).map fun x => (x.1, x.2.1, x.2.2 ++ 32 :: b) := by
  obtain ⟨h1, h2⟩ := while_join32 isIn (by decide) b r
  unfold one
  simp only [h1, h2, num_join32]
  by_cases ha : (isSmall c || isLarge c) = true
  · rw [if_pos ha, if_pos ha]; rfl
  rw [if_neg ha, if_neg ha]
  by_cases hb : isDigit c = true
  · rw [if_pos hb, if_pos hb]; rfl
  rw [if_neg hb, if_neg hb]
  cases r with
  | nil =>
    simp only [List.nil_append]
    have e : isSign2 c 32 = false := by simp [isSign2]
    rw [e, if_neg (by decide)]
    by_cases hs : isSign1 c = true
    · rw [if_pos hs, if_pos hs]; rfl
    · rw [if_neg hs, if_neg hs]; rfl
  | cons d r2 =>
    simp only [List.cons_append]
    by_cases h2 : isSign2 c d = true
    · rw [if_pos h2, if_pos h2]; rfl
    · rw [if_neg h2, if_neg h2]
      by_cases hs : isSign1 c = true
      · rw [if_pos hs, if_pos hs]; rfl
      · rw [if_neg hs, if_neg hs]; rfl
theorem skip_join32 {c : Int} {r z : List Int} (h : skip false (c :: r) = c :: r) : skip false (c :: (r ++ 32 :: z)) = c :: (r ++ 32 :: z) := by
  obtain ⟨h1, h2⟩ := skip_head _ _ _ _ h
  refine skip_fix h1 ?_
  have e : ((r ++ 32 :: z).head? == some 45) = (r.head? == some 45) := by cases r <;> rfl
  rw [e]; exact h2
end Go.Proofs.Ytnnjanhibomijaa.LexSpec
namespace Go.Proofs.Ytnnjanhibomijaa.LexImpl
open Go.RowKit Go.Proofs.Ytnnjanhibomijaa.A Go.Proofs.YtnnjanhibomijaaW.PrintWords Go.Proofs.Ytnnjanhibomijaa.LexSpec

theorem str_bytes (s : ByteArray) : strOfNums (bytesOf s) = s := by
  have h : (strOfNums (bytesOf s)).data.toList = s.data.toList := by
    rw [strOfNums_data, bytesOf, List.map_map]
    conv => rhs; rw [← List.map_id s.data.toList]
    apply List.map_congr_left
    intro x _
    simp [Function.comp]
  have h2 : (strOfNums (bytesOf s)).data = s.data := Array.toList_inj.mp h
  exact ByteArray.ext h2
/-- a token that is the one of its text -/
structure Good (x : Tk) : Prop where
  ne : x.f0 ≠ 0
  nil : bytesOf x.f1 ≠ []
  sk : skip false (bytesOf x.f1) = bytesOf x.f1
  one : one (bytesOf x.f1) = some (x.f0, bytesOf x.f1, [])
theorem good_of {x : Tk} (hx : x.f1.size ≤ 100) (h : rightSays x = true) : Good x := by
  have hb := byt_bytes x.f1
  have hl : (bytesOf x.f1).length ≤ 65536 := by rw [bytesOf_length]; omega
  unfold rightSays at h
  dsimp only at h
  cases ha : lexN (bytesOf x.f1).length (bytesOf x.f1) with
  | inl e => rw [faulting hl ha] at h; simp at h
  | inr ts =>
    rw [saying hl ha] at h
    simp only [if_true, List.length_map] at h
    by_cases h2 : (ts.length : Int) = 2
    · rw [if_pos h2] at h
      cases hq : skip false (bytesOf x.f1) with
      | nil => rw [lexN_nil hq] at ha; cases ha; simp at h2
      | cons c r =>
        cases ho : one (c :: r) with
        | none => rw [lexN_none hq ho] at ha; cases ha
        | some y =>
          obtain ⟨kd, t, rest⟩ := y
          rw [lexN_step hq ho] at ha
          cases hx2 : lexN (bytesOf x.f1).length rest with
          | inl e => rw [hx2] at ha; cases ha
          | inr us =>
            rw [hx2] at ha
            cases ha
            have e0 : rd_T31 (List.map tok ((kd, t, (bytesOf x.f1).length - (r.length + 1)) :: us)) 0 = tok (kd, t, (bytesOf x.f1).length - (r.length + 1)) := rfl
            rw [e0] at h
            by_cases h3 : (tok (kd, t, (bytesOf x.f1).length - (r.length + 1))).f0 = x.f0
            · rw [if_pos h3] at h
              have h4 : (strOfNums t).toList = x.f1.toList := beq_iff_eq.mp h
              obtain ⟨ht, htn, hkd⟩ := one_text ho
              have hsuf := skip_suffix false (bytesOf x.f1)
              rw [hq] at hsuf
              have htb : Byt t := fun y hy => hb y (hsuf.subset (by rw [← ht]; exact List.mem_append_left _ hy))
              rw [← str_bytes x.f1] at h4
              have hteq := bytes_inj htb hb h4
              have hlen := hsuf.length_le
              rw [← ht, List.length_append, hteq] at hlen
              have hrest : rest = [] := List.length_eq_zero_iff.mp (by omega)
              subst hrest
              rw [List.append_nil] at ht
              have h5 : kd = x.f0 := h3
              subst hteq
              refine ⟨by rw [← h5]; exact hkd, htn, by rw [hq, ht], ?_⟩
              have := ho
              rw [← ht, h5] at this
              exact this
            · rw [if_neg h3] at h; cases h
    · rw [if_neg h2] at h; cases h

/-- the texts, a blank ahead of each -/
def tailB : List Tk → List Int
  | [] => []
  | x :: r => 32 :: (bytesOf x.f1 ++ tailB r)
theorem spell_tail : ∀ (l : List Tk) (acc : List Int), (∀ x ∈ l, Good x) → spell acc false l = acc ++ tailB l
  | [], acc, _ => by simp [spell, tailB]
  | x :: r, acc, h => by
    have hx := h x (List.mem_cons_self ..)
    rw [spell, if_neg hx.ne, if_neg (by decide), spell_tail r _ (fun y hy => h y (List.mem_cons_of_mem _ hy)), tailB]
    simp
theorem tail_step {x : Tk} (hx : Good x) (l : List Tk) : ∃ c r, skip false (bytesOf x.f1 ++ tailB l) = c :: r ∧ c :: r = bytesOf x.f1 ++ tailB l ∧ one (c :: r) = some (x.f0, bytesOf x.f1, tailB l) := by
  have hs := hx.sk
  have ho := hx.one
  cases hb : bytesOf x.f1 with
  | nil => exact absurd hb hx.nil
  | cons c r =>
    rw [hb] at hs ho
    cases l with
    | nil =>
      rw [tailB, List.append_nil]
      exact ⟨c, r, hs, rfl, ho⟩
    | cons y l =>
      rw [tailB, List.cons_append]
      refine ⟨c, _, skip_join32 hs, rfl, ?_⟩
      rw [one_join32, ho]
      rfl
def toksB (n : Nat) : List Tk → List (Int × List Int × Nat)
  | [] => [(0, [], n)]
  | x :: r => (x.f0, bytesOf x.f1, n - ((tailB (x :: r)).length - 1)) :: toksB n r
theorem lexN_tail (n : Nat) : ∀ l : List Tk, (∀ x ∈ l, Good x) → lexN n (tailB l) = .inr (toksB n l)
  | [], _ => lexN_nil rfl
  | x :: r, h => by
    obtain ⟨c, q, h1, h2, h3⟩ := tail_step (h x (List.mem_cons_self ..)) r
    have ih := lexN_tail n r (fun y hy => h y (List.mem_cons_of_mem _ hy))
    have hs : skip false (tailB (x :: r)) = c :: q := by rw [tailB, skip, if_pos (by decide)]; exact h1
    rw [lexN_step hs h3, ih]
    show Sum.inr _ = Sum.inr _
    rw [toksB]
    have e := congrArg List.length h2
    rw [List.length_cons] at e
    rw [tailB, List.length_cons, e, Nat.add_sub_cancel]
theorem lexN_spell (n : Nat) (l : List Tk) (h : ∀ x ∈ l, Good x) : lexN n (spell [] true l) = .inr (toksB n l) := by
  cases l with
  | nil => exact lexN_nil rfl
  | cons x r =>
    have hx := h x (List.mem_cons_self ..)
    rw [spell, if_neg hx.ne, if_pos rfl, spell_tail r _ (fun y hy => h y (List.mem_cons_of_mem _ hy)), List.nil_append, ← lexN_tail n (x :: r) h]
    refine lexN_skip ?_
    rw [tailB]
    conv => rhs; rw [skip, if_pos (by decide)]
theorem spell_len (l : List Tk) (h : ∀ x ∈ l, Good x) : (spell [] true l).length = (tailB l).length - 1 := by
  cases l with
  | nil => rfl
  | cons x r =>
    have hx := h x (List.mem_cons_self ..)
    rw [spell, if_neg hx.ne, if_pos rfl, spell_tail r _ (fun y hy => h y (List.mem_cons_of_mem _ hy)), List.nil_append, tailB, List.length_cons, Nat.add_sub_cancel]
theorem toksB_len (n : Nat) : ∀ l, (toksB n l).length = l.length + 1
  | [] => rfl
  | x :: r => by rw [toksB, List.length_cons, toksB_len n r, List.length_cons]
theorem toksB_at (n : Nat) : ∀ (l : List Tk) (i : Nat) (h : i < l.length), (toksB n l)[i]'(by rw [toksB_len]; omega) = (l[i].f0, bytesOf l[i].f1, n - ((tailB (l.drop i)).length - 1))
  | [], _, h => by simp at h
  | x :: r, 0, _ => rfl
  | x :: r, i + 1, h => by
    simp only [toksB, List.getElem_cons_succ, List.drop_succ_cons]
    exact toksB_at n r i (by simpa using h)
theorem tail_drop : ∀ (l : List Tk) (i : Nat), (tailB (l.drop i)).length ≤ (tailB l).length
  | [], i => by simp
  | x :: r, 0 => Nat.le_refl _
  | x :: r, i + 1 => by
    have := tail_drop r i
    rw [List.drop_succ_cons, tailB, List.length_cons, List.length_append]
    omega
theorem tail_less (l : List Tk) (i : Nat) (h : i < l.length) : (tailB (l.drop (i + 1))).length < (tailB (l.drop i)).length := by
  rw [List.drop_eq_getElem_cons h, tailB, List.length_cons, List.length_append]
  omega
theorem tail_pos (l : List Tk) (i : Nat) (h : i < l.length) : 0 < (tailB (l.drop i)).length := by
  rw [List.drop_eq_getElem_cons h, tailB, List.length_cons]; omega
theorem spell_bound : ∀ (l : List Tk), (∀ x ∈ l, x.f1.size ≤ 100) → (tailB l).length ≤ l.length * 101
  | [], _ => by simp [tailB]
  | x :: r, h => by
    have := spell_bound r (fun y hy => h y (List.mem_cons_of_mem _ hy))
    have hx := h x (List.mem_cons_self ..)
    rw [tailB, List.length_cons, List.length_append, bytesOf_length, List.length_cons]
    omega
theorem spell_byt : ∀ (l : List Tk) (acc : List Int) (b : Bool), Byt acc → Byt (spell acc b l)
  | [], acc, _, h => h
  | x :: r, acc, b, h => by
    have app : ∀ u v : List Int, Byt u → Byt v → Byt (u ++ v) := by
      intro u v hu hv y hy
      rcases List.mem_append.mp hy with q | q
      · exact hu y q
      · exact hv y q
    rw [spell]
    split
    · exact spell_byt r acc b h
    · split
      · exact spell_byt r _ _ (app _ _ h (byt_bytes _))
      · refine spell_byt r _ _ (app _ _ (app _ _ h ?_) (byt_bytes _))
        intro y hy
        have := List.mem_singleton.mp hy
        omega
end Go.Proofs.Ytnnjanhibomijaa.LexImpl

namespace Go.Proofs.Ytnnjanhibomijaa.Pure
open Go.RowKit Go.Proofs.Ytnnjanhibomijaa.A Go.Proofs.YtnnjanhibomijaaW.PrintWords Go.Proofs.Ytnnjanhibomijaa.LexImpl Go.Proofs.Ytnnjanhibomijaa.LexSpec

theorem back_tok {ts : List (Int × List Int × Nat)} {i : Nat} (h : i < ts.length) : rd_T31 (ts.map tok) (i : Int) = tok ts[i] := by
  unfold rd_T31
  rw [Int.toNat_natCast, List.getD_eq_getElem?_getD, List.getElem?_map, List.getElem?_eq_getElem h]
  rfl
theorem back_same {s : List Tk} (hn : s.length ≤ 300) (n : Nat) (h : s ≠ [] → n = (tailB s).length - 1) : ∀ d i : Nat, i + d = s.length → Ev (fun k => foliotlaw04_LexBack.l1 k s ((toksB n s).map tok) (i : Int)) true
  | 0, i, hi => by
    refine Ev.step' ?_
    simp only [foliotlaw04_LexBack.l1, if_neg (show ¬ (i : Int) < (s.length : Int) from by omega)]
    exact Ev.bind awake_ev (Ev.now _)
  | d + 1, i, hi => by
    have ih := back_same hn n h d (i + 1) (by omega)
    have hl := toksB_len n s
    have hil : i < s.length := by omega
    have e1 : wrap64 ((i : Int) + 1) = ((i + 1 : Nat) : Int) := by unfold wrap64; omega
    have ea : rd_T31 ((toksB n s).map tok) (i : Int) = ⟨s[i].f0, s[i].f1, ((n - ((tailB (s.drop i)).length - 1) : Nat) : Int)⟩ := by
      rw [back_tok (by omega), toksB_at n s i hil]
      show S31.mk _ _ _ = S31.mk _ _ _
      rw [str_bytes]
    have eb : rd_T31 s (i : Int) = s[i] := by rw [rd_at, List.getD_eq_getElem?_getD, List.getElem?_eq_getElem hil]; rfl
    refine Ev.step' ?_
    simp only [foliotlaw04_LexBack.l1, ea, eb, e1, List.length_map, hl, if_pos (show (i : Int) < (s.length : Int) from by omega), if_pos (Int.natCast_nonneg i), if_pos (show (i : Int) < ((s.length + 1 : Nat) : Int) from by omega), if_true]
    by_cases h0 : (i : Int) > 0
    · obtain ⟨j, rfl⟩ : ∃ j, i = j + 1 := ⟨i - 1, by omega⟩
      have e2 : wrap64 (((j + 1 : Nat) : Int) - 1) = (j : Int) := by unfold wrap64; omega
      have ec : rd_T31 ((toksB n s).map tok) (j : Int) = ⟨s[j].f0, s[j].f1, ((n - ((tailB (s.drop j)).length - 1) : Nat) : Int)⟩ := by
        rw [back_tok (by omega), toksB_at n s j (by omega)]
        show S31.mk _ _ _ = S31.mk _ _ _
        rw [str_bytes]
      have t1 := tail_less s j (by omega)
      have t2 := tail_drop s j
      have t3 := tail_pos s (j + 1) hil
      have hh := h (by intro q; rw [q] at hil; simp at hil)
      simp only [if_pos h0, e2, ec, if_pos (Int.natCast_nonneg j), if_pos (show (j : Int) < ((s.length + 1 : Nat) : Int) from by omega),
        if_neg (show ¬ ((n - ((tailB (s.drop (j + 1))).length - 1) : Nat) : Int) ≤ ((n - ((tailB (s.drop j)).length - 1) : Nat) : Int) from by omega)]
      exact ih
    · simp only [if_neg h0]
      exact ih
theorem back_loop {s : List Tk} (hn : s.length ≤ 300) (hs : ∀ x ∈ s, x.f1.size ≤ 100) : ∀ l, l <:+ s → ((∀ x ∈ l, rightSays x = true) → ∀ x ∈ s, rightSays x = true) → Ev (fun k => foliotlaw04_LexBack.l0 k s (((s.length - l.length : Nat)) : Int)) true
  | [], _, hr => by
    have hg : ∀ x ∈ s, LexImpl.Good x := fun x hx => good_of (hs x hx) (hr (fun _ h => absurd h List.not_mem_nil) x hx)
    have hb := spell_byt s [] true (fun _ h => absurd h List.not_mem_nil)
    have hl := spell_len s hg
    have hle := spell_bound s hs
    refine Ev.step' ?_
    simp only [foliotlaw04_LexBack.l0, List.length_nil, Nat.sub_zero, Int.lt_irrefl, if_false]
    refine Ev.bind (spell_lex_ev hn hs) ?_
    refine Ev.bind (tokens_ev hb) ?_
    rw [saying (by omega) (lexN_spell _ s hg)]
    have e1 : wrap64 ((s.length : Int) + 1) = ((s.length + 1 : Nat) : Int) := by unfold wrap64; omega
    simp only [if_true, List.length_map, toksB_len, e1, bne_self_eq_false]
    refine Ev.step' ?_
    simp only [foliotlaw04_LexBack.j1, Bool.false_eq_true, if_false]
    exact back_same hn _ (fun _ => hl) s.length 0 (by omega)
  | c :: r, h, hr => by
    obtain ⟨i, e1, h1, h2, h3, h4⟩ := wpos_cons (d := z31) h (by omega)
    rw [e1]
    have hc := hs c (h.subset (List.mem_cons_self ..))
    have hw : wrap64 ((i : Int) + 1) = ((i + 1 : Nat) : Int) := by unfold wrap64; omega
    refine Ev.step' ?_
    simp only [foliotlaw04_LexBack.l0, rd_at, h2, hw, if_pos (show (i : Int) < (s.length : Int) from by omega), if_pos (Int.natCast_nonneg i)]
    refine Ev.bind (right_lex hc) ?_
    cases hq : rightSays c with
    | true =>
      simp only [if_true]
      have ih := back_loop hn hs r h4 (fun hall => hr (fun x hx => by
        rcases List.mem_cons.mp hx with rfl | h5
        · exact hq
        · exact hall x h5))
      rw [h3] at ih
      exact ih
    | false =>
      simp only [Bool.false_eq_true, if_false]
      exact Ev.bind awake_ev (Ev.now _)
theorem LexBack (s : List Tk) : ∃ k, foliotlaw04_LexBack.f k s = some true := by
  refine Ev.rounds (g := fun k => foliotlaw04_LexBack.f k s) ?_
  unfold foliotlaw04_LexBack.f
  refine Ev.bind (few_ev s) ?_
  cases hf : (decide (s.length ≤ 300) && s.all fun x => decide (x.f1.size ≤ 100)) with
  | false => simp only [Bool.false_eq_true, if_false]; exact Ev.now _
  | true =>
    simp only [if_true]
    obtain ⟨h1, h2⟩ := Bool.and_eq_true_iff.mp hf
    have := back_loop (of_decide_eq_true h1) (fun x hx => of_decide_eq_true (List.all_eq_true.mp h2 x hx)) s (List.suffix_refl _) (fun h => h)
    rw [Nat.sub_self] at this
    exact this
end Go.Proofs.Ytnnjanhibomijaa.Pure
