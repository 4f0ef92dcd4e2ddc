-- printed by a program of this session, by way of the kit's printer
import Derived.Test.YtnnjanhibomijaaAx0
import Derived.Test.YtnnjanhibomijaaAx10
namespace Go.Proofs.Ytnnjanhibomijaa.A
open Go.RowKit Go.Proofs.YtnnjanhibomijaaW.PrintWords Go.Proofs.YtnnjanhibomijaaW.PrintLast Go.Proofs.YtnnjanhibomijaaW.PrintMore
attribute [local go_sem] max2_int min2_int max_two min_two max_three min_three max_four min_four   -- for this text's walks alone
set_option linter.unusedVariables false
set_option linter.unusedSimpArgs false

/-! ### lex_Right: function 13: a text of this session -/
def lex_Right.f (k : Nat) (a0_0 : Int) (a0_1 : ByteArray) (a0_2 : Int) : Option (Bool) := if a0_1.size ≤ 9223372036854775807 then ((lex_Tokens.f k (bytesOf a0_1)).bind fun bt => (if bt.2.1 = 0 then (if (bt.1.length : Int) = 2 then (if (rd_T31 bt.1 0).f0 = a0_0 then some ((rd_T31 bt.1 0).f1.toList == a0_1.toList) else some false) else some false) else some false)) else none
theorem lex_Right.mono : ∀ a0 a1 a2 k, LeO (lex_Right.f k a0 a1 a2) (lex_Right.f (k + 1) a0 a1 a2) := by
  intro a0 a1 a2 k
  unfold lex_Right.f
  exact LeO.ite (LeO.bind (lex_Tokens.mono _ _) (fun _ => LeO.refl _)) (LeO.refl _)
theorem lex_Right.bytes_C (W : World) (e : TypeId) (s : ByteArray) (hs : s.size ≤ 9223372036854775807) : Kd.C (Kd.int .u8) (Lib.bytesWorld W e s) (some ⟨W.heap.size, 0, none⟩) s.size (bytesOf s) :=
  Kd.C_of_reads (d := (0 : Int)) (bytes_reads W e s hs)
set_option maxHeartbeats 8000000 in
set_option maxRecDepth 100000 in
theorem lex_Right.calls (k : Nat) (a0_0 : Int) (a0_1 : ByteArray) (a0_2 : Int) (r : Bool) (w : World) (h : lex_Right.f k a0_0 a0_1 a0_2 = some r) :
    Calls Try.prog 13 #[.agg #[.int .i64 a0_0, .string a0_1, .int .i64 a0_2]] w fun e w' => e = .returned (.bool r) ∧ Below w.heap.size w w' := by
  have huK := Try.underlying31
  unfold lex_Right.f at h
  by_cases hs : a0_1.size ≤ 9223372036854775807
  rotate_left
  · rw [if_neg hs] at h; cases h
  rw [if_pos hs] at h
  replace h := Option.bind_eq_some_iff.mp h
  obtain ⟨⟨l, q1, q2⟩, hT, H⟩ := h
  replace H : (if q1 = 0 then (if (l.length : Int) = 2 then (if (rd_T31 l 0).f0 = a0_0 then some ((rd_T31 l 0).f1.toList == a0_1.toList) else some false) else some false) else some false) = some r := H
  have HT := Aside0.mk hT
  have HS := Aside0.mk hs
  have HB := Aside0.mk (Below.refl w.heap.size w)
  clear hT hs
  have kb := fun W => print_bytes (P := Try.prog) 9 22 5 Try.underlying9 Try.underlying22 Try.underlying5 a0_1 W
  have HH := Aside0.mk H
  clear H
  go_enter Try.func13, Try.ntmps13
  go_wp2_with fail
  have hc := lex_Tokens.calls k (some ⟨(w.alloc (.cells #[.int .i64 a0_0, .string a0_1, .int .i64 a0_2] 31)).heap.size, 0, none⟩) (grownCap (w.alloc (.cells #[.int .i64 a0_0, .string a0_1, .int .i64 a0_2] 31)) a0_1.size 0 5) (bytesOf a0_1) l q1 q2 (Lib.bytesWorld (w.alloc (.cells #[.int .i64 a0_0, .string a0_1, .int .i64 a0_2] 31)) 5 a0_1) (by rw [bytesOf_length]; exact lex_Right.bytes_C _ _ _ HS.out) (by rw [bytesOf_length]; exact grownCap_ge _ _ _ _) HT.out
  rw [bytesOf_length, show (w.alloc (.cells #[.int .i64 a0_0, .string a0_1, .int .i64 a0_2] 31)).heap.size = w.heap.size + 1 from Array.size_push ..] at hc
  refine hc.mono ?_
  clear hc kb
  rintro e w1 ⟨v0, rfl, hR, hb⟩
  have HB1 := Aside0.mk (below_step (bytes_below (below_alloc HB.out _) ((below_alloc (Below.refl _ _) _).size) 5 a0_1) hb)
  have hbx := blk_below (blk_below (blk_new w (.cells #[.int .i64 a0_0, .string a0_1, .int .i64 a0_2] 31)) (bytes_below (Below.refl _ _) (Nat.le_refl _) 5 a0_1)) hb
  clear hb
  obtain ⟨A, c, rfl, hlc, hC⟩ := Kd.R_reads hR
  have hb0 : w1.cell? ⟨w.heap.size, 0, none⟩ = some (.int .i64 a0_0) := (blk_cell hbx 0).trans rfl
  have hb1 : w1.cell? ⟨w.heap.size, 1, none⟩ = some (.string a0_1) := (blk_cell hbx 1).trans rfl
  clear hbx hR
  have HC := Aside0.mk hC
  clear hC
  have H := HH.out
  clear HH
  by_cases c1 : q1 = 0
  · rw [if_pos c1] at H
    have c1b : (q1 == 0) = true := beq_iff_eq.mpr c1
    clear c1
    by_cases c2 : (l.length : Int) = 2
    · rw [if_pos c2] at H
      have c2b : ((l.length : Int) == 2) = true := beq_iff_eq.mpr c2
      obtain ⟨ad, e0, h0, h1, _⟩ := at_T31 HC.out 0 (by omega) (by omega)
      subst e0
      rw [show ad.add (Int.toNat 0 * 3) = ad from by simp [Addr.add]] at h0 h1
      have p0 : (0 : Int) < (l.length : Int) := by omega
      have p1 : 0 < l.length := by omega
      clear c2
      by_cases c3 : (rd_T31 l 0).f0 = a0_0
      · rw [if_pos c3] at H
        have c3b : ((rd_T31 l 0).f0 == a0_0) = true := beq_iff_eq.mpr c3
        clear c3
        simp only [Option.some.injEq] at H
        subst H
        go_wp2_with fail
        go_quiet (fail)
        go_wp2_with fail
        go_ret
        exact ⟨rfl, by repeat (first | (with_reducible first | exact HB1.out | apply below_alloc | apply pw_below_drewN | apply below_drew1) | exact HB1.out)⟩
      · rw [if_neg c3] at H
        have c3b : ((rd_T31 l 0).f0 == a0_0) = false := beq_eq_false_iff_ne.mpr c3
        clear c3
        simp only [Option.some.injEq] at H
        subst H
        go_wp2_with fail
        go_quiet (fail)
        go_wp2_with fail
        go_ret
        exact ⟨rfl, by repeat (first | (with_reducible first | exact HB1.out | apply below_alloc | apply pw_below_drewN | apply below_drew1) | exact HB1.out)⟩
    · rw [if_neg c2] at H
      have c2b : ((l.length : Int) == 2) = false := beq_eq_false_iff_ne.mpr c2
      clear c2
      simp only [Option.some.injEq] at H
      subst H
      go_wp2_with fail
      go_quiet (fail)
      go_wp2_with fail
      go_ret
      exact ⟨rfl, by repeat (first | (with_reducible first | exact HB1.out | apply below_alloc | apply pw_below_drewN | apply below_drew1) | exact HB1.out)⟩
  · rw [if_neg c1] at H
    have c1b : (q1 == 0) = false := beq_eq_false_iff_ne.mpr c1
    clear c1
    simp only [Option.some.injEq] at H
    subst H
    go_wp2_with fail
    go_quiet (fail)
    go_wp2_with fail
    go_ret
    exact ⟨rfl, by repeat (first | (with_reducible first | exact HB1.out | apply below_alloc | apply pw_below_drewN | apply below_drew1) | exact HB1.out)⟩
end Go.Proofs.Ytnnjanhibomijaa.A
