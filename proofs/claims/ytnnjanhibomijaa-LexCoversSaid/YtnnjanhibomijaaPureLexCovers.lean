/- Each token stands where it says, one behind the other; between them nothing but blanks and remarks. -/
import Derived.Test.YtnnjanhibomijaaAx23
import Derived.Test.YtnnjanhibomijaaLexRight
import Derived.Test.YtnnjanhibomijaaLexAwake
namespace Go.Proofs.Ytnnjanhibomijaa.Pure
open Go.RowKit Go.Proofs.Ytnnjanhibomijaa.A Go.Proofs.YtnnjanhibomijaaW.PrintWords Go.Proofs.Ytnnjanhibomijaa.LexImpl Go.Proofs.Ytnnjanhibomijaa.LexSpec

theorem covers_byt {l : List Int} (h : ∀ x ∈ l, (Lit.int .u8 x).wf = true) : Byt l := by
  intro x hx
  have h2 : (decide (IntKind.u8.min ≤ x) && decide (x ≤ IntKind.u8.max)) = true := h x hx
  rw [show IntKind.u8.min = 0 from rfl, show IntKind.u8.max = 255 from rfl] at h2
  simpa using h2
theorem covers_len {n : Nat} {l : List Int} {ts} (h : lexN n l = .inr ts) : ts.length ≤ l.length + 1 := lexF_len n _ _ _ (by omega) h
/-- one round: the token t at p, g stands ahead of it -/
theorem covers_round {s g t rest : List Int} {T : List S31} {i : Nat} {kd : Int} (hs : Byt s) (hn : s.length ≤ 5000) (hl : g ++ (t ++ rest) <:+ s) (hT : T.length ≤ 10000) (hi : i < T.length)
    (hr : rd_T31 T (i : Int) = ⟨kd, strOfNums t, pos s (t ++ rest)⟩) (hg : skip false (g ++ (t ++ rest)) = t ++ rest)
    (hk : (kd == 0) = decide (i + 1 = T.length)) (hR : kd ≠ 0 → Ev (fun k => lex_Right.f k kd (strOfNums t) (pos s (t ++ rest))) true)
    (go : Ev (fun k => foliotlaw04_LexCovers.l0 k s T (pos s rest) ((i + 1 : Nat) : Int)) true) :
    Ev (fun k => foliotlaw04_LexCovers.l0 k s T (pos s (g ++ (t ++ rest))) (i : Int)) true := by
  have hl2 : t ++ rest <:+ s := (List.suffix_append g _).trans hl
  have hl3 : rest <:+ s := (List.suffix_append t _).trans hl2
  have p1 := pos_mono hl
  have p2 := pos_mono hl2
  have p3 : pos s rest ≤ s.length := pos_le
  have p0 : 0 ≤ pos s (g ++ (t ++ rest)) := pos_nn
  have ct := cut_text hl2
  have cg := cut_text hl
  have en : wrap64 (pos s (t ++ rest) + ((strOfNums t).size : Int)) = pos s rest := by
    rw [strOfNums_size]
    have e := hl2.length_le
    rw [List.length_append] at e
    unfold pos wrap64
    rw [List.length_append]
    omega
  have e1 : wrap64 ((i : Int) + 1) = ((i + 1 : Nat) : Int) := by unfold wrap64; omega
  have e2 : wrap64 ((T.length : Int) - 1) = (T.length : Int) - 1 := by unfold wrap64; omega
  have hb : Byt g := fun x hx => hs x (hl.subset (List.mem_append_left _ hx))
  have hgl : g.length ≤ 65536 := by
    have e := hl.length_le
    rw [List.length_append] at e
    omega
  have hgap := gap_ev hb hgl hg
  generalize pos s (g ++ (t ++ rest)) = pg at *
  generalize pos s (t ++ rest) = pt at *
  generalize pos s rest = pr at *
  refine Ev.step' ?_
  unfold foliotlaw04_LexCovers.l0
  simp only [hr, en, if_pos (show (i : Int) < (T.length : Int) from by omega), if_pos (show (0 : Int) ≤ (i : Int) from by omega), if_neg (show ¬ pt < pg from by omega), if_neg (show ¬ pr > (s.length : Int) from by omega),
    if_pos (show 0 ≤ pt from by omega), if_pos p2, if_pos p3, ct, bne_self_eq_false]
  refine Ev.step' ?_
  unfold foliotlaw04_LexCovers.j1
  simp only [Bool.false_eq_true, if_false, if_pos p0, if_pos p1, if_pos (show pt ≤ (s.length : Int) from by omega), cg, en, e1, e2]
  refine Ev.bind hgap ?_
  have hx : ((i : Int) == (T.length : Int) - 1) = decide (i + 1 = T.length) := by
    by_cases h : i + 1 = T.length
    · rw [decide_eq_true h]; exact beq_iff_eq.mpr (by omega)
    · rw [decide_eq_false h]; exact beq_eq_false_iff_ne.mpr (by omega)
  simp only [if_true, List.length_cons, List.length_nil, show (((0 + 1 : Nat)) : Int) = 1 from rfl, hx, hk, bne_self_eq_false, Bool.false_eq_true, if_false]
  by_cases h0 : kd = 0
  · simp only [if_pos h0]; exact go
  · simp only [if_neg h0]
    refine Ev.bind (hR h0) ?_
    simp only [if_true]
    exact go
theorem covers_loop {s : List Int} {T : List S31} (hs : Byt s) (hn : s.length ≤ 5000) (hT : T.length ≤ 10000) (l : List Int) : ∀ (ts : List (Int × List Int × Nat)) (i : Nat), l <:+ s → lexN s.length l = .inr ts → i + ts.length = T.length →
    (∀ j (h : j < ts.length), rd_T31 T ((i + j : Nat) : Int) = tok ts[j]) → Ev (fun k => foliotlaw04_LexCovers.l0 k s T (pos s l) (i : Int)) true := by
  refine lex_ind (p := fun l => ∀ (ts : List (Int × List Int × Nat)) (i : Nat), l <:+ s → lexN s.length l = .inr ts → i + ts.length = T.length →
    (∀ j (h : j < ts.length), rd_T31 T ((i + j : Nat) : Int) = tok ts[j]) → Ev (fun k => foliotlaw04_LexCovers.l0 k s T (pos s l) (i : Int)) true) ?_ ?_ ?_ (l.length + 1) l (by omega)
  · intro l h ts i hl e hi ht
    rw [lexN_nil h] at e
    cases e
    have h0 := ht 0 (by simp)
    have hi2 : i + 1 = T.length := by simpa using hi
    have key := covers_round (g := l) (t := []) (rest := []) (i := i) (kd := 0) hs hn (by simpa using hl) hT (by omega) (by rw [Nat.add_zero] at h0; rw [h0]; show S31.mk _ _ _ = S31.mk _ _ _; rw [List.append_nil, pos_nil]; rfl) (by simpa using h)
      (by rw [decide_eq_true hi2]; rfl) (fun h => absurd rfl h) (by
        refine Ev.step' ?_
        unfold foliotlaw04_LexCovers.l0
        simp only [if_neg (show ¬ (((i + 1 : Nat)) : Int) < (T.length : Int) from by omega), if_pos (show (T.length : Int) > 0 from by omega)]
        exact Ev.bind awake_ev (Ev.now _))
    simpa using key
  · intro l c r h ho ts i hl e hi ht
    rw [lexN_none h ho] at e; cases e
  · intro l c r kd t rest h ho _ _ ih ts i hl e hi ht
    rw [lexN_step h ho] at e
    cases hx : lexN s.length rest with
    | inl e' => rw [hx] at e; cases e
    | inr us =>
      rw [hx] at e
      cases e
      obtain ⟨he, htn, hkd⟩ := one_text ho
      obtain ⟨g, hg⟩ := skip_suffix false l
      rw [h, ← he] at hg
      have hsl : t ++ rest <:+ s := (List.suffix_append g _).trans (by rw [hg]; exact hl)
      have hrs : rest <:+ s := (List.suffix_append t _).trans hsl
      have hus : 0 < us.length := by obtain ⟨vs, hv⟩ := lexN_end _ _ _ hx; rw [hv]; simp
      have hi2 : i + (us.length + 1) = T.length := by simpa using hi
      have h0 := ht 0 (by simp)
      have htb : Byt t := fun x hx => hs x (hsl.subset (List.mem_append_left _ hx))
      have htl : t.length ≤ 65536 := by have := hsl.length_le; rw [List.length_append] at this; omega
      have key := covers_round (g := g) (t := t) (rest := rest) (i := i) (kd := kd) (T := T) hs hn (by rw [hg]; exact hl) hT (by omega)
        (by
          rw [Nat.add_zero] at h0
          rw [h0]
          show S31.mk _ _ _ = S31.mk _ _ _
          congr 1
          show ((s.length - (r.length + 1) : Nat) : Int) = pos s (t ++ rest)
          rw [he]; rfl)
        (by rw [hg, h, he])
        (by rw [decide_eq_false (by omega)]; exact beq_eq_false_iff_ne.mpr hkd)
        (fun _ => right_ev h ho htb htl)
        (ih us (i + 1) hrs hx (by omega) (fun j hj => by
          have := ht (j + 1) (by simpa using hj)
          rw [show i + 1 + j = i + (j + 1) from by omega, this]
          rfl))
      rw [hg] at key
      exact key
theorem lexN_fault (n : Nat) (l : List Int) : ∀ e, lexN n l = .inl e → e ≤ n := by
  refine lex_ind (p := fun l => ∀ e, lexN n l = .inl e → e ≤ n) ?_ ?_ ?_ (l.length + 1) l (by omega)
  · intro l h e he; rw [lexN_nil h] at he; cases he
  · intro l c r h ho e he; rw [lexN_none h ho] at he; cases he; exact Nat.sub_le _ _
  · intro l c r kd t rest h ho _ _ ih e he
    rw [lexN_step h ho] at he
    cases hx : lexN n rest with
    | inl e' => rw [hx] at he; cases he; exact ih _ hx
    | inr us => rw [hx] at he; cases he
theorem LexCovers : foliotlaw04_LexCovers.Pure := by
  intro s _ hs0 hs1
  have hs := covers_byt hs1
  refine Ev.rounds (g := fun k => foliotlaw04_LexCovers.f k s) ?_
  unfold foliotlaw04_LexCovers.f
  by_cases h5 : (s.length : Int) > 5000
  · simp only [if_pos h5]; exact Ev.now _
  simp only [if_neg h5]
  refine Ev.bind (tokens_ev hs) ?_
  cases ha : lexN s.length s with
  | inl e =>
    have he := lexN_fault _ _ _ ha
    rw [faulting (by omega) ha]
    simp only [show ¬ ((40 : Int) = 0) from by decide, if_false, if_pos (show (e : Int) ≥ 0 from by omega), if_pos (show (e : Int) ≤ (s.length : Int) from by omega), List.length_nil, Int.natCast_zero, if_true]
    exact Ev.bind awake_ev (Ev.now _)
  | inr ts =>
    have hc := covers_len ha
    rw [saying (by omega) ha]
    simp only [if_true]
    have key := covers_loop (T := ts.map tok) hs (by omega) (by rw [List.length_map]; omega) s ts 0 (List.suffix_refl _) ha (by simp) (fun j hj => by
      unfold rd_T31
      rw [Nat.zero_add, Int.toNat_natCast, List.getD_eq_getElem?_getD, List.getElem?_map, List.getElem?_eq_getElem hj]
      rfl)
    rw [show pos s s = 0 from by simp [pos]] at key
    exact key
end Go.Proofs.Ytnnjanhibomijaa.Pure
