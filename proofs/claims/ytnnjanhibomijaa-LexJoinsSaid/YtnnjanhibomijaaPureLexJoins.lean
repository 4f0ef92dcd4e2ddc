/- Sources with a new line between are the tokens of both. -/
import Derived.Test.YtnnjanhibomijaaAx20
import Derived.Test.YtnnjanhibomijaaLexMore
import Derived.Test.YtnnjanhibomijaaLexAwake
import Derived.Test.YtnnjanhibomijaaLexRef
namespace Go.Proofs.Ytnnjanhibomijaa.Pure
open Go.RowKit Go.Proofs.Ytnnjanhibomijaa.A Go.Proofs.YtnnjanhibomijaaW.PrintWords Go.Proofs.Ytnnjanhibomijaa.LexImpl Go.Proofs.Ytnnjanhibomijaa.LexSpec

theorem joins_byt {l : List Int} (h : ∀ x ∈ l, (Lit.int .u8 x).wf = true) : Byt l := by
  intro x hx
  have h2 : (decide (IntKind.u8.min ≤ x) && decide (x ≤ IntKind.u8.max)) = true := h x hx
  rw [show IntKind.u8.min = 0 from rfl, show IntKind.u8.max = 255 from rfl] at h2
  simpa using h2
theorem lexN_pos (n : Nat) (l : List Int) : ∀ ts, lexN n l = .inr ts → ∀ x ∈ ts, x.2.2 ≤ n := by
  refine lex_ind (p := fun l => ∀ ts, lexN n l = .inr ts → ∀ x ∈ ts, x.2.2 ≤ n) ?_ ?_ ?_ (l.length + 1) l (by omega)
  · intro l h ts e x hx; rw [lexN_nil h] at e; cases e; cases List.mem_singleton.mp hx; exact Nat.le_refl n
  · intro l c r h ho ts e; rw [lexN_none h ho] at e; cases e
  · intro l c r kd t rest h ho _ _ ih ts e x hx
    rw [lexN_step h ho] at e
    cases hq : lexN n rest with
    | inl e' => rw [hq] at e; cases e
    | inr us =>
      rw [hq] at e
      cases e
      rcases List.mem_cons.mp hx with rfl | h2
      · exact Nat.sub_le _ _
      · exact ih us hq x h2
theorem lexN_count (n : Nat) (l : List Int) (ts) (h : lexN n l = .inr ts) : ts.length ≤ l.length + 1 := lexF_len n _ _ _ (by omega) h
theorem say_inl {s : List Int} {e : Nat} (hl : s.length ≤ 65536) (h : lexN s.length s = .inl e) : tokensSay s = ([], 40, (e : Int)) := by
  unfold tokensSay
  rw [if_neg (by omega), show lex s = .inl e from h]
theorem say_inr {s : List Int} {ts} (hl : s.length ≤ 65536) (h : lexN s.length s = .inr ts) : tokensSay s = (ts.map tok, 0, 0) := by
  unfold tokensSay
  rw [if_neg (by omega), show lex s = .inr ts from h]
theorem joins_loop {A : List Int} {X Y Z : List S31} (hA : A.length ≤ 5000) (hX : 0 < X.length) (hX2 : X.length ≤ 10000) (hY2 : Y.length ≤ 10000) (hZ : Z.length + 1 = X.length + Y.length)
    (h1 : ∀ i : Nat, i + 1 < X.length → rd_T31 Z (i : Int) = rd_T31 X (i : Int))
    (h2 : ∀ i j : Nat, i + 1 = X.length + j → j < Y.length → rd_T31 Z (i : Int) = ⟨(rd_T31 Y (j : Int)).f0, (rd_T31 Y (j : Int)).f1, wrap64 ((rd_T31 Y (j : Int)).f2 + wrap64 ((A.length : Int) + 1))⟩) :
    ∀ d i : Nat, i + d = Z.length → Ev (fun k => foliotlaw04_LexJoins.l0 k A X Y Z (i : Int)) true
  | 0, i, hi => by
    refine Ev.step' ?_
    simp only [foliotlaw04_LexJoins.l0, if_neg (show ¬ (i : Int) < (Z.length : Int) from by omega)]
    exact Ev.bind awake_ev (Ev.now _)
  | d + 1, i, hi => by
    refine Ev.step' ?_
    have ih := joins_loop hA hX hX2 hY2 hZ h1 h2 d (i + 1) (by omega)
    have e1 : wrap64 ((i : Int) + 1) = ((i + 1 : Nat) : Int) := by unfold wrap64; omega
    have e2 : wrap64 ((X.length : Int) - 1) = (X.length : Int) - 1 := by unfold wrap64; omega
    by_cases hc : i + 1 < X.length
    · simp only [foliotlaw04_LexJoins.l0, if_pos (show (i : Int) < (Z.length : Int) from by omega), e1, e2, if_pos (show (i : Int) < (X.length : Int) - 1 from by omega), if_pos (show (0 : Int) ≤ (i : Int) from by omega),
        if_pos (show (i : Int) < (X.length : Int) from by omega), h1 i hc, beq_self_eq_true, Bool.not_true, Bool.or_self, Bool.false_eq_true, if_false]
      exact ih
    · obtain ⟨j, hj⟩ : ∃ j, i + 1 = X.length + j := ⟨i + 1 - X.length, by omega⟩
      have e3 : wrap64 ((i : Int) - (X.length : Int)) = (i : Int) - (X.length : Int) := by unfold wrap64; omega
      have e4 : wrap64 ((i : Int) - (X.length : Int) + 1) = (j : Int) := by unfold wrap64; omega
      simp only [foliotlaw04_LexJoins.l0, if_pos (show (i : Int) < (Z.length : Int) from by omega), e1, e2, if_neg (show ¬ (i : Int) < (X.length : Int) - 1 from by omega), e3, e4, if_pos (show (0 : Int) ≤ (j : Int) from by omega),
        if_pos (show (j : Int) < (Y.length : Int) from by omega), if_pos (show (0 : Int) ≤ (i : Int) from by omega), h2 i j hj (by omega), beq_self_eq_true, Bool.not_true, Bool.or_self, Bool.false_eq_true, if_false]
      exact ih
theorem rd_tok {ts : List (Int × List Int × Nat)} {i : Nat} (h : i < ts.length) : rd_T31 (ts.map tok) (i : Int) = tok ts[i] := by
  unfold rd_T31
  rw [Int.toNat_natCast, List.getD_eq_getElem?_getD, List.getElem?_map, List.getElem?_eq_getElem h]
  rfl
theorem moved_wrap (p A B : Nat) (hp : p ≤ B) (h : A + B ≤ 5000) : wrap64 ((p : Int) + wrap64 ((A : Int) + 1)) = ((p + (A + 1) : Nat) : Int) := by unfold wrap64; omega
theorem LexJoins : foliotlaw04_LexJoins.Pure := by
  intro A B _ hA0 hA1 _ hB0 hB1
  have hA := joins_byt hA1
  have hB := joins_byt hB1
  refine Ev.rounds (g := fun k => foliotlaw04_LexJoins.f k A B) ?_
  unfold foliotlaw04_LexJoins.f
  have ew : wrap64 ((A.length : Int) + (B.length : Int)) = (A.length : Int) + (B.length : Int) := by unfold wrap64; omega
  rw [ew]
  by_cases h5 : (A.length : Int) + (B.length : Int) > 5000
  · simp only [if_pos h5]; exact Ev.now _
  simp only [if_neg h5, Option.bind_some, List.nil_append]
  have eZ : A ++ [10] ++ B = A ++ 10 :: B := by simp
  have hZ : Byt (A ++ 10 :: B) := by
    intro x hx
    rcases List.mem_append.mp hx with h | h
    · exact hA x h
    · rcases List.mem_cons.mp h with h | h
      · omega
      · exact hB x h
  have lZ : (A ++ 10 :: B).length = A.length + (B.length + 1) := by rw [List.length_append, List.length_cons]
  refine Ev.bind (tokens_ev hA) ?_
  refine Ev.bind (tokens_ev hB) ?_
  simp only [if_pos (show ([] : List Int).length + A.length < 140737488355328 from by simp; omega), if_pos (show A.length < 140737488355328 from by omega)]
  simp only [if_pos (show (A ++ [10]).length + B.length < 140737488355328 from by simp; omega), eZ]
  refine Ev.bind (tokens_ev hZ) ?_
  have J := lexN_join A.length B A
  have M := lexN_moved B.length (A.length + 1) B (Nat.le_refl _)
  rw [show B.length + (A.length + 1) = A.length + (B.length + 1) from by omega] at M
  rw [M, ← lZ] at J
  cases ha : lexN A.length A with
  | inl e =>
    rw [ha] at J
    rw [say_inl (by omega) ha, say_inl (by omega) J]
    simp only [show ¬ ((40 : Int) = 0) from by decide, if_false]
    refine Ev.step' ?_
    simp only [foliotlaw04_LexJoins.j0, if_true, show ¬ ((40 : Int) = 0) from by decide, if_false]
    exact Ev.bind awake_ev (Ev.now _)
  | inr ts =>
    rw [ha] at J
    cases hb : lexN B.length B with
    | inl e =>
      rw [hb] at J
      rw [say_inr (by omega) ha, say_inl (by omega) hb, say_inl (by omega) J]
      simp only [if_true, show ((40 : Int) != 0) = true from by decide]
      refine Ev.step' ?_
      simp only [foliotlaw04_LexJoins.j0, if_true, show ¬ ((40 : Int) = 0) from by decide, if_false]
      exact Ev.bind awake_ev (Ev.now _)
    | inr us =>
      rw [hb] at J
      have ca := lexN_count _ _ _ ha
      have cb := lexN_count _ _ _ hb
      have ps := lexN_pos _ _ _ hb
      obtain ⟨vs, hvs⟩ := lexN_end _ _ _ ha
      dsimp only at J
      rw [say_inr (by omega) ha, say_inr (by omega) hb, say_inr (by omega) J]
      have hl : (ts.dropLast ++ us.map (moved (A.length + 1))).length + 1 = ts.length + us.length := by rw [hvs]; simp; omega
      have hl0 : 0 < ts.length := by rw [hvs]; simp
      simp only [if_true, show ((0 : Int) != 0) = false from by decide]
      refine Ev.step' ?_
      simp only [foliotlaw04_LexJoins.j0, Bool.false_eq_true, if_true, if_false, List.length_map]
      generalize hz : ts.dropLast ++ us.map (moved (A.length + 1)) = zs at hl
      have e5 : wrap64 (wrap64 ((ts.length : Int) + (us.length : Int)) - 1) = (zs.length : Int) := by unfold wrap64; omega
      rw [e5]
      refine Ev.step' ?_
      simp only [foliotlaw04_LexJoins.j1, bne_self_eq_false, Bool.false_eq_true, if_false]
      refine joins_loop (by omega) (by simpa using hl0) (by simp; omega) (by simp; omega) (by simpa using hl) ?_ ?_ (zs.map tok).length 0 (by omega)
      · intro i hi
        rw [List.length_map] at hi
        rw [rd_tok (by omega), rd_tok (by omega)]
        congr 1
        subst hz
        rw [List.getElem_append_left (by simp; omega), List.getElem_dropLast]
      · intro i j hij hj
        rw [List.length_map] at hij hj
        rw [rd_tok (by omega), rd_tok (by omega)]
        have e6 : zs[i]'(by omega) = moved (A.length + 1) us[j] := by
          subst hz
          rw [List.getElem_append_right (by simp; omega), List.getElem_map]
          congr 2
          simp; omega
        rw [e6]
        have pj := ps us[j] (List.getElem_mem _)
        have e7 : wrap64 ((us[j].2.2 : Int) + wrap64 ((A.length : Int) + 1)) = ((us[j].2.2 + (A.length + 1) : Nat) : Int) := moved_wrap _ _ _ pj (by omega)
        show S31.mk _ _ _ = S31.mk _ _ _
        congr 1
        exact e7.symm
end Go.Proofs.Ytnnjanhibomijaa.Pure
