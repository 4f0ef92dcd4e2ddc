-- printed by a program of this session, by way of the kit's printer
import Derived.Test.YtnnjanhibomijaaAx0
import Derived.Test.YtnnjanhibomijaaAx10
import Derived.Test.YtnnjanhibomijaaAx18
import Derived.Test.YtnnjanhibomijaaAx22
namespace Go.Proofs.Ytnnjanhibomijaa.A
open Go.RowKit Go.Proofs.YtnnjanhibomijaaW.PrintWords Go.Proofs.YtnnjanhibomijaaW.PrintLast Go.Proofs.YtnnjanhibomijaaW.PrintMore
attribute [local go_sem] max2_int min2_int max_two min_two max_three min_three max_four min_four   -- for this text's walks alone
set_option linter.unusedVariables false
set_option linter.unusedSimpArgs false

/-! ### foliotlaw04_LexCovers: function 6 -/
mutual
def foliotlaw04_LexCovers.l0 : Nat → List Int → List (S31) → Int → Int → Option (Bool)
  | 0, _, _, _, _ => none
  | k + 1, x0, x3, x6, x7 => if x7 < (x3.length : Int) then (if 0 ≤ x7 then (if ((rd_T31 x3 x7).f2) < x6 then (foliotlaw04_LexCovers.j1 k x0 x3 x6 x7 true ((rd_T31 x3 x7).f0) ((rd_T31 x3 x7).f1) ((rd_T31 x3 x7).f2)) else (if (wrap64 (((rd_T31 x3 x7).f2) + (((rd_T31 x3 x7).f1).size : Int))) > (x0.length : Int) then (foliotlaw04_LexCovers.j1 k x0 x3 x6 x7 true ((rd_T31 x3 x7).f0) ((rd_T31 x3 x7).f1) ((rd_T31 x3 x7).f2)) else (if 0 ≤ ((rd_T31 x3 x7).f2) then (if ((rd_T31 x3 x7).f2) ≤ (wrap64 (((rd_T31 x3 x7).f2) + (((rd_T31 x3 x7).f1).size : Int))) then (if (wrap64 (((rd_T31 x3 x7).f2) + (((rd_T31 x3 x7).f1).size : Int))) ≤ (x0.length : Int) then (foliotlaw04_LexCovers.j1 k x0 x3 x6 x7 ((strOfNums ((x0.take ((wrap64 (((rd_T31 x3 x7).f2) + (((rd_T31 x3 x7).f1).size : Int))) : Int).toNat).drop (((rd_T31 x3 x7).f2) : Int).toNat)).toList != ((rd_T31 x3 x7).f1).toList) ((rd_T31 x3 x7).f0) ((rd_T31 x3 x7).f1) ((rd_T31 x3 x7).f2)) else (none)) else (none)) else (none)))) else (none)) else (if (x3.length : Int) > 0 then ((foliotlaw04_awake.f k).bind fun t242 => (some t242)) else (none))
def foliotlaw04_LexCovers.j1 : Nat → List Int → List (S31) → Int → Int → Bool → Int → ByteArray → Int → Option (Bool)
  | 0, _, _, _, _, _, _, _, _ => none
  | k + 1, x0, x3, x6, x7, x79, x245000, x245001, x245002 => if x79 = true then (none) else (if 0 ≤ x6 then (if x6 ≤ x245002 then (if x245002 ≤ (x0.length : Int) then ((lex_Tokens.f k ((x0.take (x245002 : Int).toNat).drop (x6 : Int).toNat)).bind fun bt247 => (if bt247.2.1 = 0 then (if (bt247.1.length : Int) = 1 then (if ((x245000 == 0) != (x7 == (wrap64 ((x3.length : Int) - 1)))) = true then (none) else (if x245000 = 0 then (foliotlaw04_LexCovers.l0 k x0 x3 (wrap64 (x245002 + (x245001.size : Int))) (wrap64 (x7 + 1))) else ((lex_Right.f k x245000 x245001 x245002).bind fun t252 => (if t252 = true then (foliotlaw04_LexCovers.l0 k x0 x3 (wrap64 (x245002 + (x245001.size : Int))) (wrap64 (x7 + 1))) else (none))))) else (none)) else (none))) else (none)) else (none)) else (none))
end
def foliotlaw04_LexCovers.f (k : Nat) (l0 : List Int) : Option (Bool) := if (l0.length : Int) > 5000 then (some true) else ((lex_Tokens.f k l0).bind fun bt236 => (if bt236.2.1 = 0 then (foliotlaw04_LexCovers.l0 k l0 bt236.1 0 0) else (if bt236.2.2 ≥ 0 then (if bt236.2.2 ≤ (l0.length : Int) then (if (bt236.1.length : Int) = 0 then ((foliotlaw04_awake.f k).bind fun t241 => (some t241)) else (none)) else (none)) else (none))))
theorem foliotlaw04_LexCovers.mono_l : ∀ k, (∀ y0 y1 y2 y3, LeO (foliotlaw04_LexCovers.l0 k y0 y1 y2 y3) (foliotlaw04_LexCovers.l0 (k + 1) y0 y1 y2 y3)) ∧ (∀ y0 y1 y2 y3 y4 y5 y6 y7, LeO (foliotlaw04_LexCovers.j1 k y0 y1 y2 y3 y4 y5 y6 y7) (foliotlaw04_LexCovers.j1 (k + 1) y0 y1 y2 y3 y4 y5 y6 y7))
  | 0 => ⟨fun _ _ _ _ r h => by simp [foliotlaw04_LexCovers.l0] at h, fun _ _ _ _ _ _ _ _ r h => by simp [foliotlaw04_LexCovers.j1] at h⟩
  | k + 1 => by
    obtain ⟨ih0, ih1⟩ := foliotlaw04_LexCovers.mono_l k
    refine ⟨?_, ?_⟩
    · intro y0 y1 y2 y3
      unfold foliotlaw04_LexCovers.l0
      repeat' first
      | (with_reducible exact ih0 _ _ _ _)
      | (with_reducible exact ih1 _ _ _ _ _ _ _ _)
      | (with_reducible exact foliotlaw04_awake.mono _)
      | (with_reducible exact lex_Right.mono _ _ _ _)
      | (with_reducible exact lex_Tokens.mono _ _)
      | (with_reducible exact LeO.refl _)
      | (with_reducible exact LeO.none _)
      | (with_reducible refine LeO.ite ?_ ?_)
      | (with_reducible refine LeO.bind ?_ (fun _ => ?_))
      | exact ih0 _ _ _ _
      | exact ih1 _ _ _ _ _ _ _ _
      | exact foliotlaw04_awake.mono _
      | exact lex_Right.mono _ _ _ _
      | exact lex_Tokens.mono _ _
      | exact LeO.none _
      | refine LeO.ite ?_ ?_
      | refine LeO.bind ?_ (fun _ => ?_)
    · intro y0 y1 y2 y3 y4 y5 y6 y7
      unfold foliotlaw04_LexCovers.j1
      repeat' first
      | (with_reducible exact ih0 _ _ _ _)
      | (with_reducible exact ih1 _ _ _ _ _ _ _ _)
      | (with_reducible exact foliotlaw04_awake.mono _)
      | (with_reducible exact lex_Right.mono _ _ _ _)
      | (with_reducible exact lex_Tokens.mono _ _)
      | (with_reducible exact LeO.refl _)
      | (with_reducible exact LeO.none _)
      | (with_reducible refine LeO.ite ?_ ?_)
      | (with_reducible refine LeO.bind ?_ (fun _ => ?_))
      | exact ih0 _ _ _ _
      | exact ih1 _ _ _ _ _ _ _ _
      | exact foliotlaw04_awake.mono _
      | exact lex_Right.mono _ _ _ _
      | exact lex_Tokens.mono _ _
      | exact LeO.none _
      | refine LeO.ite ?_ ?_
      | refine LeO.bind ?_ (fun _ => ?_)
theorem foliotlaw04_LexCovers.mono : ∀ a0 k, LeO (foliotlaw04_LexCovers.f k a0) (foliotlaw04_LexCovers.f (k + 1) a0) := by
  intro a0 k
  obtain ⟨ih0, ih1⟩ := foliotlaw04_LexCovers.mono_l k
  unfold foliotlaw04_LexCovers.f
  repeat' first
      | (with_reducible exact ih0 _ _ _ _)
      | (with_reducible exact ih1 _ _ _ _ _ _ _ _)
      | (with_reducible exact foliotlaw04_awake.mono _)
      | (with_reducible exact lex_Right.mono _ _ _ _)
      | (with_reducible exact lex_Tokens.mono _ _)
      | (with_reducible exact LeO.refl _)
      | (with_reducible exact LeO.none _)
      | (with_reducible refine LeO.ite ?_ ?_)
      | (with_reducible refine LeO.bind ?_ (fun _ => ?_))
      | exact ih0 _ _ _ _
      | exact ih1 _ _ _ _ _ _ _ _
      | exact foliotlaw04_awake.mono _
      | exact lex_Right.mono _ _ _ _
      | exact lex_Tokens.mono _ _
      | exact LeO.none _
      | refine LeO.ite ?_ ?_
      | refine LeO.bind ?_ (fun _ => ?_)
set_option maxHeartbeats 8000000 in
set_option maxRecDepth 100000 in
theorem foliotlaw04_LexCovers.calls (k : Nat) (A0 : Option Addr) (c0 : Nat) (l0 : List Int) (r : Bool) (w : World) (hr0 : Kd.C (Kd.int .u8) w A0 l0.length l0) (hc0 : l0.length ≤ c0) (h : foliotlaw04_LexCovers.f k l0 = some r) :
    Calls Try.prog 6 #[.slice A0 l0.length c0] w fun e w' => e = .returned (.bool r) ∧ Below w.heap.size w w' := by
  have hu31 := Try.underlying31
  have HR0 := Aside0.mk hr0
  have HC0 := Aside0.mk hc0
  clear hr0 hc0
  have HB := Aside0.mk (Below.refl w.heap.size w)
  have H : (if (l0.length : Int) > 5000 then (some true) else ((lex_Tokens.f k l0).bind fun bt236 => (if bt236.2.1 = 0 then (foliotlaw04_LexCovers.l0 k l0 bt236.1 0 0) else (if bt236.2.2 ≥ 0 then (if bt236.2.2 ≤ (l0.length : Int) then (if (bt236.1.length : Int) = 0 then ((foliotlaw04_awake.f k).bind fun t241 => (some t241)) else (none)) else (none)) else (none))))) = some r := h
  clear h
  by_cases c2 : (l0.length : Int) > 5000
  · rw [if_pos c2] at H
    have c2b0 : decide (5000 < (l0.length : Int)) = true := decide_eq_true c2
    have c2b1 : decide (5000 < l0.length) = true := decide_eq_true (by omega)
    clear c2
    obtain rfl := Option.some.inj H
    go_enter Try.func6, Try.ntmps6
    go_wp2
    repeat (go_quiet (fail); try go_wp2)
    go_ret
    exact ⟨by first | rfl | (simp [errW_none, errW_some] <;> rfl) | (simp [*, errW_none, errW_some] <;> rfl), by repeat (first | (with_reducible first | exact HB.out | apply below_alloc | apply pw_below_drewN | apply below_drew1) | exact HB.out)⟩
  · rw [if_neg c2] at H
    have c2b0 : decide (5000 < (l0.length : Int)) = false := decide_eq_false c2
    have c2b1 : decide (5000 < l0.length) = false := decide_eq_false (by omega)
    clear c2
    replace H := Option.bind_eq_some_iff.mp H
    obtain ⟨⟨t236, t237, t238⟩, A30, H⟩ := H
    replace H : (if t237 = 0 then (foliotlaw04_LexCovers.l0 k l0 t236 0 0) else (if t238 ≥ 0 then (if t238 ≤ (l0.length : Int) then (if (t236.length : Int) = 0 then ((foliotlaw04_awake.f k).bind fun t241 => (some t241)) else (none)) else (none)) else (none))) = some r := H
    have A3 := Aside0.mk A30
    clear A30
    by_cases c4 : t237 = 0
    · rw [if_pos c4] at H
      have c4b0 : (t237 == 0) = true := beq_iff_eq.mpr c4
      have c4b1 : (t237 != 0) = false := bne_eq_false_iff_eq.mpr c4
      clear c4
      have H' := Aside0.mk H
      clear H
      go_enter Try.func6, Try.ntmps6
      go_wp2_with (first | (go_at_call 9; (with_reducible refine (lex_Tokens.calls k _ _ l0 t236 t237 t238 _ ?side1 ?side2 A3.out).mono ?_); (case side1 => repeat (first | exact HR0.out | (with_reducible refine Kd.C_alloc ?_ _) | (with_reducible refine Kd.C_drewN ?_ _) | (with_reducible refine Kd.C_drew ?_))); (case side2 => exact HC0.out); rintro e w5 ⟨v239, rfl, ho0, hb⟩; have n0_ := Aside0.mk (Kd.R_lower ho0 (below_size (by repeat (first | (with_reducible first | exact HB.out | apply below_alloc | apply pw_below_drewN | apply below_drew1) | exact HB.out)))); have n1_ := Aside0.mk (below_step (by repeat (first | (with_reducible first | exact HB.out | apply below_alloc | apply pw_below_drewN | apply below_drew1) | exact HB.out)) hb); clear HB; have HO240 := n0_; have HB := n1_; clear n0_ n1_; (try clear hb); (try clear hb2); (try clear hk); (try clear hi); (try clear ho0)))
      repeat (go_quiet (first | (go_at_call 9; (with_reducible refine (lex_Tokens.calls k _ _ l0 t236 t237 t238 _ ?side1 ?side2 A3.out).mono ?_); (case side1 => repeat (first | exact HR0.out | (with_reducible refine Kd.C_alloc ?_ _) | (with_reducible refine Kd.C_drewN ?_ _) | (with_reducible refine Kd.C_drew ?_))); (case side2 => exact HC0.out); rintro e w5 ⟨v239, rfl, ho0, hb⟩; have n0_ := Aside0.mk (Kd.R_lower ho0 (below_size (by repeat (first | (with_reducible first | exact HB.out | apply below_alloc | apply pw_below_drewN | apply below_drew1) | exact HB.out)))); have n1_ := Aside0.mk (below_step (by repeat (first | (with_reducible first | exact HB.out | apply below_alloc | apply pw_below_drewN | apply below_drew1) | exact HB.out)) hb); clear HB; have HO240 := n0_; have HB := n1_; clear n0_ n1_; (try clear hb); (try clear hb2); (try clear hk); (try clear hi); (try clear ho0))); try go_wp2_with (first | (go_at_call 9; (with_reducible refine (lex_Tokens.calls k _ _ l0 t236 t237 t238 _ ?side1 ?side2 A3.out).mono ?_); (case side1 => repeat (first | exact HR0.out | (with_reducible refine Kd.C_alloc ?_ _) | (with_reducible refine Kd.C_drewN ?_ _) | (with_reducible refine Kd.C_drew ?_))); (case side2 => exact HC0.out); rintro e w5 ⟨v239, rfl, ho0, hb⟩; have n0_ := Aside0.mk (Kd.R_lower ho0 (below_size (by repeat (first | (with_reducible first | exact HB.out | apply below_alloc | apply pw_below_drewN | apply below_drew1) | exact HB.out)))); have n1_ := Aside0.mk (below_step (by repeat (first | (with_reducible first | exact HB.out | apply below_alloc | apply pw_below_drewN | apply below_drew1) | exact HB.out)) hb); clear HB; have HO240 := n0_; have HB := n1_; clear n0_ n1_; (try clear hb); (try clear hb2); (try clear hk); (try clear hi); (try clear ho0))))
      go_loopg [6, 7] k (fun kq v6 v7 w' => ∃ (x6_1 : Int) (x7_1 : Int), v6 = .int .i64 x6_1 ∧ v7 = .int .i64 x7_1 ∧ Aside0 (foliotlaw04_LexCovers.l0 kq l0 t236 x6_1 x7_1 = some r) ∧ Aside0 (kq ≤ k) ∧ Aside0 (Kd.R k31 31 w' w.heap.size (fun _ => True) v239 t236) ∧ Aside0 (Below w.heap.size w w'))
      case atStart => exact ⟨(0), (0), (by first | rfl | (simp; done) | (simp [*]; done)), (by first | rfl | (simp; done) | (simp [*]; done)), H', ⟨Nat.le_refl _⟩, ⟨by (with_reducible repeat (first | apply Kd.R_alloc | apply Kd.R_drewN | apply Kd.R_drew)); exact HO240.out⟩, ⟨by repeat (first | (with_reducible first | exact HB.out | apply below_alloc | apply pw_below_drewN | apply below_drew1) | exact HB.out)⟩⟩
      case round =>
        clear H'
        try clear c2
        try clear c2b0
        try clear c2b1
        try clear p2
        try clear c4
        try clear c4b0
        try clear c4b1
        obtain ⟨x6_1, x7_1, rfl, rfl, HA, HK1, HO_3, HB⟩ := hrel
        cases gk with
        | zero => exact absurd HA.out (by simp [foliotlaw04_LexCovers.l0])
        | succ k1 =>
          have H := HA.out
          clear HA
          simp only [foliotlaw04_LexCovers.l0] at H
          by_cases c6 : x7_1 < (t236.length : Int)
          · rw [if_pos c6] at H
            have c6b0 : decide (x7_1 < (t236.length : Int)) = true := decide_eq_true c6
            clear c6
            by_cases c7 : 0 ≤ x7_1
            · rw [if_pos c7] at H
              have c7b0 : decide (0 ≤ x7_1) = true := decide_eq_true c7
              clear c7
              have HC8 := Aside0.mk H
              clear H
              obtain ⟨Ao9, co9, eo9⟩ := Kd.R_slice HO_3.out
              subst eo9
              have p243 : 0 ≤ (x7_1 : Int) := of_decide_eq_true (by first | (with_reducible assumption) | assumption)
              have q243 : x7_1 < (t236.length : Int) := of_decide_eq_true (by first | (with_reducible assumption) | assumption)
              obtain ⟨ad243, e243, hx243_0, hx243_1, hx243_2⟩ := at_T31 (Kd.R_reads' HO_3.out).2.2 x7_1 p243 q243
              cases e243
              replace p243 := eq_true p243
              replace q243 := eq_true q243
              go_upto_region 11 with (first | ((with_reducible refine gate_dst (N := 8) rfl ?_); (try (refine gate_guard (by rfl) ?_; dsimp only)); refine box_event ?hg (N := 8) ?hd (cs := #[.int .i64 0, .string (⟨#[]⟩ : ByteArray), .int .i64 0]) (t := 31) ?hr ?_; (case hd => rfl); (case hg => rfl); (case hr => first | (go_simp; done) | (go_simp; rfl)); intro gb244 hg w10 hbox hb; have n0_ := Aside0.mk (Kd.R_below (Kd.R_elderB (by (with_reducible repeat (first | apply Kd.R_alloc | apply Kd.R_drewN | apply Kd.R_drew)); exact HO_3.out) gb244 (Nat.le_of_eq hg.symm)) hb); have n1_ := Aside0.mk (below_step (by repeat (first | (with_reducible first | exact HB.out | apply below_alloc | apply pw_below_drewN | apply below_drew1) | exact HB.out)) hb); have n2_ := Aside0.mk (hbox); have n3_ := Aside0.mk ((by rw [hg]; exact (below_size (by repeat (first | (with_reducible first | exact HB.out | apply below_alloc | apply pw_below_drewN | apply below_drew1) | exact HB.out))) : w.heap.size ≤ gb244)); have n4_ := Aside0.mk ((by rw [hg]; exact (below_size (by repeat (first | (with_reducible first | exact HB.out | apply below_alloc | apply pw_below_drewN | apply below_drew1) | exact HB.out))) : w.heap.size ≤ gb244)); clear HO_3; clear HB; have HO_3 := n0_; have HB := n1_; have BK244 := n2_; have GW244 := n3_; have GE244 := n4_; clear n0_ n1_ n2_ n3_ n4_; clear hb hbox hg; have hcz11_0 : w10.cell? ⟨gb244, 0, none⟩ = some (.int .i64 0) := (blk_cell BK244.out 0).trans rfl; have hcz11_1 : w10.cell? ⟨gb244, 1, none⟩ = some (.string (⟨#[]⟩ : ByteArray)) := (blk_cell BK244.out 1).trans rfl; have hcz11_2 : w10.cell? ⟨gb244, 2, none⟩ = some (.int .i64 0) := (blk_cell BK244.out 2).trans rfl; have hfz11_0 := blk_frozen BK244.out 0; have hfz11_1 := blk_frozen BK244.out 1; have hfz11_2 := blk_frozen BK244.out 2))
              repeat (go_quiet (first | ((with_reducible refine gate_dst (N := 8) rfl ?_); (try (refine gate_guard (by rfl) ?_; dsimp only)); refine box_event ?hg (N := 8) ?hd (cs := #[.int .i64 0, .string (⟨#[]⟩ : ByteArray), .int .i64 0]) (t := 31) ?hr ?_; (case hd => rfl); (case hg => rfl); (case hr => first | (go_simp; done) | (go_simp; rfl)); intro gb244 hg w10 hbox hb; have n0_ := Aside0.mk (Kd.R_below (Kd.R_elderB (by (with_reducible repeat (first | apply Kd.R_alloc | apply Kd.R_drewN | apply Kd.R_drew)); exact HO_3.out) gb244 (Nat.le_of_eq hg.symm)) hb); have n1_ := Aside0.mk (below_step (by repeat (first | (with_reducible first | exact HB.out | apply below_alloc | apply pw_below_drewN | apply below_drew1) | exact HB.out)) hb); have n2_ := Aside0.mk (hbox); have n3_ := Aside0.mk ((by rw [hg]; exact (below_size (by repeat (first | (with_reducible first | exact HB.out | apply below_alloc | apply pw_below_drewN | apply below_drew1) | exact HB.out))) : w.heap.size ≤ gb244)); have n4_ := Aside0.mk ((by rw [hg]; exact (below_size (by repeat (first | (with_reducible first | exact HB.out | apply below_alloc | apply pw_below_drewN | apply below_drew1) | exact HB.out))) : w.heap.size ≤ gb244)); clear HO_3; clear HB; have HO_3 := n0_; have HB := n1_; have BK244 := n2_; have GW244 := n3_; have GE244 := n4_; clear n0_ n1_ n2_ n3_ n4_; clear hb hbox hg; have hcz11_0 : w10.cell? ⟨gb244, 0, none⟩ = some (.int .i64 0) := (blk_cell BK244.out 0).trans rfl; have hcz11_1 : w10.cell? ⟨gb244, 1, none⟩ = some (.string (⟨#[]⟩ : ByteArray)) := (blk_cell BK244.out 1).trans rfl; have hcz11_2 : w10.cell? ⟨gb244, 2, none⟩ = some (.int .i64 0) := (blk_cell BK244.out 2).trans rfl; have hfz11_0 := blk_frozen BK244.out 0; have hfz11_1 := blk_frozen BK244.out 1; have hfz11_2 := blk_frozen BK244.out 2)); go_upto_region 11 with (first | ((with_reducible refine gate_dst (N := 8) rfl ?_); (try (refine gate_guard (by rfl) ?_; dsimp only)); refine box_event ?hg (N := 8) ?hd (cs := #[.int .i64 0, .string (⟨#[]⟩ : ByteArray), .int .i64 0]) (t := 31) ?hr ?_; (case hd => rfl); (case hg => rfl); (case hr => first | (go_simp; done) | (go_simp; rfl)); intro gb244 hg w10 hbox hb; have n0_ := Aside0.mk (Kd.R_below (Kd.R_elderB (by (with_reducible repeat (first | apply Kd.R_alloc | apply Kd.R_drewN | apply Kd.R_drew)); exact HO_3.out) gb244 (Nat.le_of_eq hg.symm)) hb); have n1_ := Aside0.mk (below_step (by repeat (first | (with_reducible first | exact HB.out | apply below_alloc | apply pw_below_drewN | apply below_drew1) | exact HB.out)) hb); have n2_ := Aside0.mk (hbox); have n3_ := Aside0.mk ((by rw [hg]; exact (below_size (by repeat (first | (with_reducible first | exact HB.out | apply below_alloc | apply pw_below_drewN | apply below_drew1) | exact HB.out))) : w.heap.size ≤ gb244)); have n4_ := Aside0.mk ((by rw [hg]; exact (below_size (by repeat (first | (with_reducible first | exact HB.out | apply below_alloc | apply pw_below_drewN | apply below_drew1) | exact HB.out))) : w.heap.size ≤ gb244)); clear HO_3; clear HB; have HO_3 := n0_; have HB := n1_; have BK244 := n2_; have GW244 := n3_; have GE244 := n4_; clear n0_ n1_ n2_ n3_ n4_; clear hb hbox hg; have hcz11_0 : w10.cell? ⟨gb244, 0, none⟩ = some (.int .i64 0) := (blk_cell BK244.out 0).trans rfl; have hcz11_1 : w10.cell? ⟨gb244, 1, none⟩ = some (.string (⟨#[]⟩ : ByteArray)) := (blk_cell BK244.out 1).trans rfl; have hcz11_2 : w10.cell? ⟨gb244, 2, none⟩ = some (.int .i64 0) := (blk_cell BK244.out 2).trans rfl; have hfz11_0 := blk_frozen BK244.out 0; have hfz11_1 := blk_frozen BK244.out 1; have hfz11_2 := blk_frozen BK244.out 2)))
              (try simp only [Act.put, List.setIfInBounds_toArray, List.set_cons_zero, List.set_cons_succ])
              go_cut [79] (fun v79 wc => ∃ (kq : Nat) (x79_7 : Bool), v79 = .bool x79_7 ∧ Aside0 (foliotlaw04_LexCovers.j1 kq l0 t236 x6_1 x7_1 x79_7 ((rd_T31 t236 x7_1).f0) ((rd_T31 t236 x7_1).f1) ((rd_T31 t236 x7_1).f2) = some r) ∧ Aside0 (kq ≤ k1) ∧ Aside0 (Kd.R k31 31 wc w.heap.size (fun k_ => k_ ≠ gb244) (.slice (some ad243) t236.length co9) t236) ∧ Aside0 (wc.heap[gb244]? = some (.cells #[.int .i64 ((rd_T31 t236 x7_1).f0), .string ((rd_T31 t236 x7_1).f1), .int .i64 ((rd_T31 t236 x7_1).f2)] 31 (0, 0))) ∧ Aside0 (Below w.heap.size w wc))
              case first =>
                have H := HC8.out
                clear HC8
                by_cases c12 : ((rd_T31 t236 x7_1).f2) < x6_1
                · rw [if_pos c12] at H
                  have c12b0 : decide (((rd_T31 t236 x7_1).f2) < x6_1) = true := decide_eq_true c12
                  clear c12
                  (first | rw [c12b0] | (simp only [i64_w, i32_w]; rw [c12b0]) | skip)
                  have H' := Aside0.mk H
                  clear H
                  have hcz13_0 : w10.cell? ⟨gb244, 0, none⟩ = some (.int .i64 0) := (blk_cell BK244.out 0).trans rfl
                  have hcz13_1 : w10.cell? ⟨gb244, 1, none⟩ = some (.string (⟨#[]⟩ : ByteArray)) := (blk_cell BK244.out 1).trans rfl
                  have hcz13_2 : w10.cell? ⟨gb244, 2, none⟩ = some (.int .i64 0) := (blk_cell BK244.out 2).trans rfl
                  have hfz13_0 := blk_frozen BK244.out 0
                  have hfz13_1 := blk_frozen BK244.out 1
                  have hfz13_2 := blk_frozen BK244.out 2
                  go_wp2
                  repeat (go_quiet (fail); try go_wp2)
                  go_meet
                  case rel => exact ⟨_, (true), (by first | rfl | (simp; done) | (simp [*]; done)), H', ⟨by have := HK1.out; first | omega | exact Nat.le_refl _⟩, ⟨by (with_reducible repeat (first | apply Kd.R_alloc | apply Kd.R_drewN | apply Kd.R_drew)); exact Kd.R_mono (Kd.R_far (p := ⟨gb244, 2, none⟩) (Kd.R_far (p := ⟨gb244, 1, none⟩) (Kd.R_far (p := ⟨gb244, 0, none⟩) (Kd.R_mono HO_3.out (fun k_ hk => (⟨hk, hk.2⟩ : _ ∧ k_ ≠ gb244))) (fun _ hk => hk.2) (.int .i64 ((rd_T31 t236 x7_1).f0))) (fun _ hk => hk.2) (.string ((rd_T31 t236 x7_1).f1))) (fun _ hk => hk.2) (.int .i64 ((rd_T31 t236 x7_1).f2))) (fun _ hk => hk.1.2)⟩, ⟨by (with_reducible repeat (first | refine blk_drewN ?_ _ | refine blk_drew ?_ | refine blk_alloc ?_ _)); refine blk_put (cs := #[.int .i64 ((rd_T31 t236 x7_1).f0), .string ((rd_T31 t236 x7_1).f1), .int .i64 0]) ?_ 2 _ rfl; (with_reducible repeat (first | refine blk_drewN ?_ _ | refine blk_drew ?_ | refine blk_alloc ?_ _)); refine blk_put (cs := #[.int .i64 ((rd_T31 t236 x7_1).f0), .string (⟨#[]⟩ : ByteArray), .int .i64 0]) ?_ 1 _ rfl; (with_reducible repeat (first | refine blk_drewN ?_ _ | refine blk_drew ?_ | refine blk_alloc ?_ _)); refine blk_put (cs := #[.int .i64 0, .string (⟨#[]⟩ : ByteArray), .int .i64 0]) ?_ 0 _ rfl; (with_reducible repeat (first | refine blk_drewN ?_ _ | refine blk_drew ?_ | refine blk_alloc ?_ _)); exact BK244.out⟩, ⟨by repeat (first | (with_reducible first | exact HB.out | apply below_alloc | apply pw_below_drewN | apply below_drew1 | refine below_set ?_ GE244.out) | exact HB.out)⟩⟩
                · rw [if_neg c12] at H
                  have c12b0 : decide (((rd_T31 t236 x7_1).f2) < x6_1) = false := decide_eq_false c12
                  clear c12
                  (first | rw [c12b0] | (simp only [i64_w, i32_w]; rw [c12b0]) | skip)
                  by_cases c14 : (wrap64 (((rd_T31 t236 x7_1).f2) + (((rd_T31 t236 x7_1).f1).size : Int))) > (l0.length : Int)
                  · rw [if_pos c14] at H
                    have c14b0 : decide ((l0.length : Int) < (wrap64 (((rd_T31 t236 x7_1).f2) + (((rd_T31 t236 x7_1).f1).size : Int)))) = true := decide_eq_true c14
                    clear c14
                    have H' := Aside0.mk H
                    clear H
                    have hcz15_0 : w10.cell? ⟨gb244, 0, none⟩ = some (.int .i64 0) := (blk_cell BK244.out 0).trans rfl
                    have hcz15_1 : w10.cell? ⟨gb244, 1, none⟩ = some (.string (⟨#[]⟩ : ByteArray)) := (blk_cell BK244.out 1).trans rfl
                    have hcz15_2 : w10.cell? ⟨gb244, 2, none⟩ = some (.int .i64 0) := (blk_cell BK244.out 2).trans rfl
                    have hfz15_0 := blk_frozen BK244.out 0
                    have hfz15_1 := blk_frozen BK244.out 1
                    have hfz15_2 := blk_frozen BK244.out 2
                    go_wp2
                    repeat (go_quiet (fail); try go_wp2)
                    go_meet
                    case rel => exact ⟨_, (true), (by first | rfl | (simp; done) | (simp [*]; done)), H', ⟨by have := HK1.out; first | omega | exact Nat.le_refl _⟩, ⟨by (with_reducible repeat (first | apply Kd.R_alloc | apply Kd.R_drewN | apply Kd.R_drew)); exact Kd.R_mono (Kd.R_far (p := ⟨gb244, 2, none⟩) (Kd.R_far (p := ⟨gb244, 1, none⟩) (Kd.R_far (p := ⟨gb244, 0, none⟩) (Kd.R_mono HO_3.out (fun k_ hk => (⟨hk, hk.2⟩ : _ ∧ k_ ≠ gb244))) (fun _ hk => hk.2) (.int .i64 ((rd_T31 t236 x7_1).f0))) (fun _ hk => hk.2) (.string ((rd_T31 t236 x7_1).f1))) (fun _ hk => hk.2) (.int .i64 ((rd_T31 t236 x7_1).f2))) (fun _ hk => hk.1.2)⟩, ⟨by (with_reducible repeat (first | refine blk_drewN ?_ _ | refine blk_drew ?_ | refine blk_alloc ?_ _)); refine blk_put (cs := #[.int .i64 ((rd_T31 t236 x7_1).f0), .string ((rd_T31 t236 x7_1).f1), .int .i64 0]) ?_ 2 _ rfl; (with_reducible repeat (first | refine blk_drewN ?_ _ | refine blk_drew ?_ | refine blk_alloc ?_ _)); refine blk_put (cs := #[.int .i64 ((rd_T31 t236 x7_1).f0), .string (⟨#[]⟩ : ByteArray), .int .i64 0]) ?_ 1 _ rfl; (with_reducible repeat (first | refine blk_drewN ?_ _ | refine blk_drew ?_ | refine blk_alloc ?_ _)); refine blk_put (cs := #[.int .i64 0, .string (⟨#[]⟩ : ByteArray), .int .i64 0]) ?_ 0 _ rfl; (with_reducible repeat (first | refine blk_drewN ?_ _ | refine blk_drew ?_ | refine blk_alloc ?_ _)); exact BK244.out⟩, ⟨by repeat (first | (with_reducible first | exact HB.out | apply below_alloc | apply pw_below_drewN | apply below_drew1 | refine below_set ?_ GE244.out) | exact HB.out)⟩⟩
                  · rw [if_neg c14] at H
                    have c14b0 : decide ((l0.length : Int) < (wrap64 (((rd_T31 t236 x7_1).f2) + (((rd_T31 t236 x7_1).f1).size : Int)))) = false := decide_eq_false c14
                    clear c14
                    by_cases c16 : 0 ≤ ((rd_T31 t236 x7_1).f2)
                    · rw [if_pos c16] at H
                      have c16b0 := eq_true c16
                      have c16b1 : decide (0 ≤ ((rd_T31 t236 x7_1).f2)) = true := decide_eq_true c16
                      clear c16
                      by_cases c17 : ((rd_T31 t236 x7_1).f2) ≤ (wrap64 (((rd_T31 t236 x7_1).f2) + (((rd_T31 t236 x7_1).f1).size : Int)))
                      · rw [if_pos c17] at H
                        have c17b0 := eq_true c17
                        have c17b1 : decide (((rd_T31 t236 x7_1).f2) ≤ (wrap64 (((rd_T31 t236 x7_1).f2) + (((rd_T31 t236 x7_1).f1).size : Int)))) = true := decide_eq_true c17
                        by_cases c18 : (wrap64 (((rd_T31 t236 x7_1).f2) + (((rd_T31 t236 x7_1).f1).size : Int))) ≤ (l0.length : Int)
                        · rw [if_pos c18] at H
                          have c18b0 := eq_true c18
                          have c18b1 : decide ((wrap64 (((rd_T31 t236 x7_1).f2) + (((rd_T31 t236 x7_1).f1).size : Int))) ≤ (l0.length : Int)) = true := decide_eq_true c18
                          have H' := Aside0.mk H
                          clear H
                          have hcz19_0 : w10.cell? ⟨gb244, 0, none⟩ = some (.int .i64 0) := (blk_cell BK244.out 0).trans rfl
                          have hcz19_1 : w10.cell? ⟨gb244, 1, none⟩ = some (.string (⟨#[]⟩ : ByteArray)) := (blk_cell BK244.out 1).trans rfl
                          have hcz19_2 : w10.cell? ⟨gb244, 2, none⟩ = some (.int .i64 0) := (blk_cell BK244.out 2).trans rfl
                          have hfz19_0 := blk_frozen BK244.out 0
                          have hfz19_1 := blk_frozen BK244.out 1
                          have hfz19_2 := blk_frozen BK244.out 2
                          obtain ⟨i020, hi020, _, hsz20, _⟩ := info_parts info5
                          obtain ⟨A20, hcut20, hA20, hC20⟩ := print_mid_of (P := Try.prog) (Value.int .u8) 0 22 5 .i64 .i64 Try.underlying22 hi020 hsz20 A0 c0 l0 ((rd_T31 t236 x7_1).f2) (wrap64 (((rd_T31 t236 x7_1).f2) + (((rd_T31 t236 x7_1).f1).size : Int))) (of_decide_eq_true (by first | (with_reducible assumption) | assumption)) (by first | omega | exact of_decide_eq_true (by first | (with_reducible assumption) | assumption)) (of_decide_eq_true (by first | (with_reducible assumption) | assumption)) HC0.out
                          have HR245 := Aside0.mk (Kd.C_of_reads (h1 := fun _ => rfl) (hA20 _ (Kd.reads_of_C HR0.out)))
                          have HC245 := Aside0.mk hC20
                          clear hA20 hC20 hi020 hsz20
                          obtain ⟨xs20, hxs20⟩ : ∃ x_ : List Int, x_ = ((l0.take ((wrap64 (((rd_T31 t236 x7_1).f2) + (((rd_T31 t236 x7_1).f1).size : Int))) : Int).toNat).drop (((rd_T31 t236 x7_1).f2) : Int).toNat) := ⟨_, rfl⟩
                          rw [← hxs20] at hcut20 HR245 HC245
                          have Nxs20 := Aside0.mk hxs20
                          clear hxs20
                          have hcv21 := fun (n_ : Nat) => Kd.C_string (P := Try.prog) (w := World.drewN (((w10.setCell ⟨gb244, 0, none⟩ (.int .i64 ((rd_T31 t236 x7_1).f0))).setCell ⟨gb244, 1, none⟩ (.string ((rd_T31 t236 x7_1).f1))).setCell ⟨gb244, 2, none⟩ (.int .i64 ((rd_T31 t236 x7_1).f2))) n_) (A := A20) (c := (c0 - ((rd_T31 t236 x7_1).f2).toNat)) Try.underlying22 Try.underlying5 Try.underlying9 (Kd.C_drewN (Kd.C_below HR245.out (below_set (below_set (below_set HB.out GE244.out) GE244.out) GE244.out)) n_)
                          go_wp2
                          repeat (go_quiet (fail); try go_wp2)
                          have hxs20 := Nxs20.out
                          clear Nxs20
                          subst hxs20
                          go_meet
                          case rel => exact ⟨_, (((strOfNums ((l0.take ((wrap64 (((rd_T31 t236 x7_1).f2) + (((rd_T31 t236 x7_1).f1).size : Int))) : Int).toNat).drop (((rd_T31 t236 x7_1).f2) : Int).toNat)).toList != ((rd_T31 t236 x7_1).f1).toList)), (by first | rfl | (simp; done) | (simp [*]; done)), H', ⟨by have := HK1.out; first | omega | exact Nat.le_refl _⟩, ⟨by (with_reducible repeat (first | apply Kd.R_alloc | apply Kd.R_drewN | apply Kd.R_drew)); exact Kd.R_mono (Kd.R_far (p := ⟨gb244, 2, none⟩) (Kd.R_far (p := ⟨gb244, 1, none⟩) (Kd.R_far (p := ⟨gb244, 0, none⟩) (Kd.R_mono HO_3.out (fun k_ hk => (⟨hk, hk.2⟩ : _ ∧ k_ ≠ gb244))) (fun _ hk => hk.2) (.int .i64 ((rd_T31 t236 x7_1).f0))) (fun _ hk => hk.2) (.string ((rd_T31 t236 x7_1).f1))) (fun _ hk => hk.2) (.int .i64 ((rd_T31 t236 x7_1).f2))) (fun _ hk => hk.1.2)⟩, ⟨by (with_reducible repeat (first | refine blk_drewN ?_ _ | refine blk_drew ?_ | refine blk_alloc ?_ _)); refine blk_put (cs := #[.int .i64 ((rd_T31 t236 x7_1).f0), .string ((rd_T31 t236 x7_1).f1), .int .i64 0]) ?_ 2 _ rfl; (with_reducible repeat (first | refine blk_drewN ?_ _ | refine blk_drew ?_ | refine blk_alloc ?_ _)); refine blk_put (cs := #[.int .i64 ((rd_T31 t236 x7_1).f0), .string (⟨#[]⟩ : ByteArray), .int .i64 0]) ?_ 1 _ rfl; (with_reducible repeat (first | refine blk_drewN ?_ _ | refine blk_drew ?_ | refine blk_alloc ?_ _)); refine blk_put (cs := #[.int .i64 0, .string (⟨#[]⟩ : ByteArray), .int .i64 0]) ?_ 0 _ rfl; (with_reducible repeat (first | refine blk_drewN ?_ _ | refine blk_drew ?_ | refine blk_alloc ?_ _)); exact BK244.out⟩, ⟨by repeat (first | (with_reducible first | exact HB.out | apply below_alloc | apply pw_below_drewN | apply below_drew1 | refine below_set ?_ GE244.out) | exact HB.out)⟩⟩
                        · rw [if_neg c18] at H
                          exact absurd H (by simp)
                      · rw [if_neg c17] at H
                        exact absurd H (by simp)
                    · rw [if_neg c16] at H
                      exact absurd H (by simp)
              case rest =>
                clear HC8
                try clear c1
                try clear c2
                try clear c2b0
                try clear c2b1
                try clear p2
                try clear q2
                try clear hx2
                try clear hcv2
                try clear c4
                try clear c4b0
                try clear c4b1
                try clear c6
                try clear c6b0
                try clear p6
                try clear c7
                try clear c7b0
                try clear c12
                try clear c12b0
                try clear c14
                try clear c14b0
                try clear c16
                try clear c16b0
                try clear c16b1
                try clear c17
                try clear c17b0
                try clear c17b1
                try clear c18
                try clear c18b0
                try clear c18b1
                try clear hcv21
                try clear hcz11_0
                try clear hcz11_1
                try clear hcz11_2
                try clear hcz13_0
                try clear hcz13_1
                try clear hcz13_2
                try clear hcz15_0
                try clear hcz15_1
                try clear hcz15_2
                try clear hcz19_0
                try clear hcz19_1
                try clear hcz19_2
                try clear hfz11_0
                try clear hfz11_1
                try clear hfz11_2
                try clear hfz13_0
                try clear hfz13_1
                try clear hfz13_2
                try clear hfz15_0
                try clear hfz15_1
                try clear hfz15_2
                try clear hfz19_0
                try clear hfz19_1
                try clear hfz19_2
                try clear hx243_0
                try clear hx243_1
                try clear hx243_2
                try clear p2
                try clear p243
                try clear q243
                obtain ⟨kq, x79_7, rfl, HA, HJ7, HO_3, BK244, HB⟩ := hcut
                cases kq with
                | zero => exact absurd HA.out (by simp [foliotlaw04_LexCovers.j1])
                | succ kj7 =>
                  have H := HA.out
                  clear HA
                  simp only [foliotlaw04_LexCovers.j1] at H
                  by_cases c22 : x79_7 = true
                  · subst c22
                    have H1 : (none) = some r := by rw [if_pos rfl] at H; exact H
                    clear H
                    have H := H1
                    clear H1
                    exact absurd H (by simp)
                  · replace c22 := Bool.eq_false_iff.mpr c22
                    subst c22
                    have H1 : (if 0 ≤ x6_1 then (if x6_1 ≤ ((rd_T31 t236 x7_1).f2) then (if ((rd_T31 t236 x7_1).f2) ≤ (l0.length : Int) then ((lex_Tokens.f kj7 ((l0.take (((rd_T31 t236 x7_1).f2) : Int).toNat).drop (x6_1 : Int).toNat)).bind fun bt247 => (if bt247.2.1 = 0 then (if (bt247.1.length : Int) = 1 then (if ((((rd_T31 t236 x7_1).f0) == 0) != (x7_1 == (wrap64 ((t236.length : Int) - 1)))) = true then (none) else (if ((rd_T31 t236 x7_1).f0) = 0 then (foliotlaw04_LexCovers.l0 kj7 l0 t236 (wrap64 (((rd_T31 t236 x7_1).f2) + (((rd_T31 t236 x7_1).f1).size : Int))) (wrap64 (x7_1 + 1))) else ((lex_Right.f kj7 ((rd_T31 t236 x7_1).f0) ((rd_T31 t236 x7_1).f1) ((rd_T31 t236 x7_1).f2)).bind fun t252 => (if t252 = true then (foliotlaw04_LexCovers.l0 kj7 l0 t236 (wrap64 (((rd_T31 t236 x7_1).f2) + (((rd_T31 t236 x7_1).f1).size : Int))) (wrap64 (x7_1 + 1))) else (none))))) else (none)) else (none))) else (none)) else (none)) else (none)) = some r := by rw [if_neg (show ¬ (false = true) by decide)] at H; exact H
                    clear H
                    have H := H1
                    clear H1
                    by_cases c23 : 0 ≤ x6_1
                    · rw [if_pos c23] at H
                      have c23b0 := eq_true c23
                      have c23b1 : decide (0 ≤ x6_1) = true := decide_eq_true c23
                      clear c23
                      by_cases c24 : x6_1 ≤ ((rd_T31 t236 x7_1).f2)
                      · rw [if_pos c24] at H
                        have c24b0 := eq_true c24
                        have c24b1 : decide (x6_1 ≤ ((rd_T31 t236 x7_1).f2)) = true := decide_eq_true c24
                        clear c24
                        by_cases c25 : ((rd_T31 t236 x7_1).f2) ≤ (l0.length : Int)
                        · rw [if_pos c25] at H
                          have c25b0 := eq_true c25
                          have c25b1 : decide (((rd_T31 t236 x7_1).f2) ≤ (l0.length : Int)) = true := decide_eq_true c25
                          clear c25
                          replace H := Option.bind_eq_some_iff.mp H
                          obtain ⟨⟨t247, t248, t249⟩, A260, H⟩ := H
                          replace H : (if t248 = 0 then (if (t247.length : Int) = 1 then (if ((((rd_T31 t236 x7_1).f0) == 0) != (x7_1 == (wrap64 ((t236.length : Int) - 1)))) = true then (none) else (if ((rd_T31 t236 x7_1).f0) = 0 then (foliotlaw04_LexCovers.l0 kj7 l0 t236 (wrap64 (((rd_T31 t236 x7_1).f2) + (((rd_T31 t236 x7_1).f1).size : Int))) (wrap64 (x7_1 + 1))) else ((lex_Right.f kj7 ((rd_T31 t236 x7_1).f0) ((rd_T31 t236 x7_1).f1) ((rd_T31 t236 x7_1).f2)).bind fun t252 => (if t252 = true then (foliotlaw04_LexCovers.l0 kj7 l0 t236 (wrap64 (((rd_T31 t236 x7_1).f2) + (((rd_T31 t236 x7_1).f1).size : Int))) (wrap64 (x7_1 + 1))) else (none))))) else (none)) else (none)) = some r := H
                          have A26 := Aside0.mk A260
                          clear A260
                          by_cases c27 : t248 = 0
                          · rw [if_pos c27] at H
                            have c27b0 : (t248 == 0) = true := beq_iff_eq.mpr c27
                            have c27b1 : (t248 != 0) = false := bne_eq_false_iff_eq.mpr c27
                            clear c27
                            by_cases c28 : (t247.length : Int) = 1
                            · rw [if_pos c28] at H
                              have c28b0 : ((t247.length : Int) == 1) = true := beq_iff_eq.mpr c28
                              have c28b1 : ((t247.length : Int) != 1) = false := bne_eq_false_iff_eq.mpr c28
                              clear c28
                              by_cases c29 : ((((rd_T31 t236 x7_1).f0) == 0) != (x7_1 == (wrap64 ((t236.length : Int) - 1)))) = true
                              · rw [if_pos c29] at H
                                exact absurd H (by simp)
                              · rw [if_neg c29] at H
                                have c29b0 : ((((rd_T31 t236 x7_1).f0) == 0) != (x7_1 == (wrap64 ((t236.length : Int) - 1)))) = false := by simpa using c29
                                (try (have c29b1 : decide ((((rd_T31 t236 x7_1).f0) == 0) = (x7_1 == (wrap64 ((t236.length : Int) - 1)))) = true := by simpa using c29))
                                (try (have c29b2 : ((((rd_T31 t236 x7_1).f0) == 0) == (x7_1 == (wrap64 ((t236.length : Int) - 1)))) = true := by simpa using c29))
                                clear c29
                                by_cases c30 : ((rd_T31 t236 x7_1).f0) = 0
                                · rw [if_pos c30] at H
                                  have c30b0 : (((rd_T31 t236 x7_1).f0) == 0) = true := beq_iff_eq.mpr c30
                                  have c30c0 : (x7_1 == (wrap64 ((t236.length : Int) - 1))) = true := by
                                    have c30d := c29b0
                                    rw [c30b0] at c30d
                                    simpa using c30d
                                  have c30c1 : (x7_1 != (wrap64 ((t236.length : Int) - 1))) = false := by simp only [bne, c30c0, Bool.not_true, Bool.not_false]
                                  have c30b1 : (((rd_T31 t236 x7_1).f0) != 0) = false := bne_eq_false_iff_eq.mpr c30
                                  clear c30
                                  have H' := Aside0.mk H
                                  clear H
                                  have hcz31_0 : wc.cell? ⟨gb244, 0, none⟩ = some (.int .i64 ((rd_T31 t236 x7_1).f0)) := (blk_cell BK244.out 0).trans rfl
                                  have hcz31_1 : wc.cell? ⟨gb244, 1, none⟩ = some (.string ((rd_T31 t236 x7_1).f1)) := (blk_cell BK244.out 1).trans rfl
                                  have hcz31_2 : wc.cell? ⟨gb244, 2, none⟩ = some (.int .i64 ((rd_T31 t236 x7_1).f2)) := (blk_cell BK244.out 2).trans rfl
                                  have hfz31_0 := blk_frozen BK244.out 0
                                  have hfz31_1 := blk_frozen BK244.out 1
                                  have hfz31_2 := blk_frozen BK244.out 2
                                  obtain ⟨i032, hi032, _, hsz32, _⟩ := info_parts info5
                                  obtain ⟨A32, hcut32, hA32, hC32⟩ := print_mid_of (P := Try.prog) (Value.int .u8) 0 22 5 .i64 .i64 Try.underlying22 hi032 hsz32 A0 c0 l0 x6_1 ((rd_T31 t236 x7_1).f2) (of_decide_eq_true (by first | (with_reducible assumption) | assumption)) (by first | omega | exact of_decide_eq_true (by first | (with_reducible assumption) | assumption)) (of_decide_eq_true (by first | (with_reducible assumption) | assumption)) HC0.out
                                  have HR246 := Aside0.mk (Kd.C_of_reads (h1 := fun _ => rfl) (hA32 _ (Kd.reads_of_C HR0.out)))
                                  have HC246 := Aside0.mk hC32
                                  clear hA32 hC32 hi032 hsz32
                                  obtain ⟨xs32, hxs32⟩ : ∃ x_ : List Int, x_ = ((l0.take (((rd_T31 t236 x7_1).f2) : Int).toNat).drop (x6_1 : Int).toNat) := ⟨_, rfl⟩
                                  rw [← hxs32] at hcut32 HR246 HC246 A26
                                  have Nxs32 := Aside0.mk hxs32
                                  clear hxs32
                                  go_wp2_with (first | (go_at_call 9; (with_reducible refine (lex_Tokens.calls kj7 _ _ xs32 t247 t248 t249 _ ?side1 ?side2 A26.out).mono ?_); (case side1 => repeat (first | exact (Kd.C_below HR246.out HB.out) | (with_reducible refine Kd.C_alloc ?_ _) | (with_reducible refine Kd.C_drewN ?_ _) | (with_reducible refine Kd.C_drew ?_))); (case side2 => exact HC246.out); rintro e w33 ⟨v250, rfl, ho0, hb⟩; have n0_ := Aside0.mk (Kd.R_elder' (by (with_reducible repeat (first | apply Kd.R_alloc | apply Kd.R_drewN | apply Kd.R_drew)); exact HO_3.out) (Kd.R_base ho0) hb); have n1_ := Aside0.mk (Kd.R_lower (Kd.R_newB (Kd.R_new' ho0 (Kd.R_lt (by (with_reducible repeat (first | apply Kd.R_alloc | apply Kd.R_drewN | apply Kd.R_drew)); exact HO_3.out))) (g := gb244) (o := .cells #[.int .i64 ((rd_T31 t236 x7_1).f0), .string ((rd_T31 t236 x7_1).f1), .int .i64 ((rd_T31 t236 x7_1).f2)] 31 (0, 0)) (by (with_reducible repeat (first | refine blk_drewN ?_ _ | refine blk_drew ?_ | refine blk_alloc ?_ _)); exact BK244.out)) (below_size (by repeat (first | (with_reducible first | exact HB.out | apply below_alloc | apply pw_below_drewN | apply below_drew1 | refine below_set ?_ GE244.out) | exact HB.out)))); have n2_ := Aside0.mk (blk_below (g := gb244) (o := .cells #[.int .i64 ((rd_T31 t236 x7_1).f0), .string ((rd_T31 t236 x7_1).f1), .int .i64 ((rd_T31 t236 x7_1).f2)] 31 (0, 0)) (by (with_reducible repeat (first | refine blk_drewN ?_ _ | refine blk_drew ?_ | refine blk_alloc ?_ _)); exact BK244.out) hb); have n3_ := Aside0.mk (below_step (by repeat (first | (with_reducible first | exact HB.out | apply below_alloc | apply pw_below_drewN | apply below_drew1 | refine below_set ?_ GE244.out) | exact HB.out)) hb); clear HO_3; clear BK244; clear HB; have HO_3 := n0_; have HO251 := n1_; have BK244 := n2_; have HB := n3_; clear n0_ n1_ n2_ n3_; (try clear hb); (try clear hb2); (try clear hk); (try clear hi); (try clear ho0); obtain ⟨Ao34, co34, eo34⟩ := Kd.R_slice HO251.out; subst eo34; have hcz35_0 : w33.cell? ⟨gb244, 0, none⟩ = some (.int .i64 ((rd_T31 t236 x7_1).f0)) := (blk_cell BK244.out 0).trans rfl; have hcz35_1 : w33.cell? ⟨gb244, 1, none⟩ = some (.string ((rd_T31 t236 x7_1).f1)) := (blk_cell BK244.out 1).trans rfl; have hcz35_2 : w33.cell? ⟨gb244, 2, none⟩ = some (.int .i64 ((rd_T31 t236 x7_1).f2)) := (blk_cell BK244.out 2).trans rfl; have hfz35_0 := blk_frozen BK244.out 0; have hfz35_1 := blk_frozen BK244.out 1; have hfz35_2 := blk_frozen BK244.out 2))
                                  repeat (go_quiet (first | (go_at_call 9; (with_reducible refine (lex_Tokens.calls kj7 _ _ xs32 t247 t248 t249 _ ?side1 ?side2 A26.out).mono ?_); (case side1 => repeat (first | exact (Kd.C_below HR246.out HB.out) | (with_reducible refine Kd.C_alloc ?_ _) | (with_reducible refine Kd.C_drewN ?_ _) | (with_reducible refine Kd.C_drew ?_))); (case side2 => exact HC246.out); rintro e w33 ⟨v250, rfl, ho0, hb⟩; have n0_ := Aside0.mk (Kd.R_elder' (by (with_reducible repeat (first | apply Kd.R_alloc | apply Kd.R_drewN | apply Kd.R_drew)); exact HO_3.out) (Kd.R_base ho0) hb); have n1_ := Aside0.mk (Kd.R_lower (Kd.R_newB (Kd.R_new' ho0 (Kd.R_lt (by (with_reducible repeat (first | apply Kd.R_alloc | apply Kd.R_drewN | apply Kd.R_drew)); exact HO_3.out))) (g := gb244) (o := .cells #[.int .i64 ((rd_T31 t236 x7_1).f0), .string ((rd_T31 t236 x7_1).f1), .int .i64 ((rd_T31 t236 x7_1).f2)] 31 (0, 0)) (by (with_reducible repeat (first | refine blk_drewN ?_ _ | refine blk_drew ?_ | refine blk_alloc ?_ _)); exact BK244.out)) (below_size (by repeat (first | (with_reducible first | exact HB.out | apply below_alloc | apply pw_below_drewN | apply below_drew1 | refine below_set ?_ GE244.out) | exact HB.out)))); have n2_ := Aside0.mk (blk_below (g := gb244) (o := .cells #[.int .i64 ((rd_T31 t236 x7_1).f0), .string ((rd_T31 t236 x7_1).f1), .int .i64 ((rd_T31 t236 x7_1).f2)] 31 (0, 0)) (by (with_reducible repeat (first | refine blk_drewN ?_ _ | refine blk_drew ?_ | refine blk_alloc ?_ _)); exact BK244.out) hb); have n3_ := Aside0.mk (below_step (by repeat (first | (with_reducible first | exact HB.out | apply below_alloc | apply pw_below_drewN | apply below_drew1 | refine below_set ?_ GE244.out) | exact HB.out)) hb); clear HO_3; clear BK244; clear HB; have HO_3 := n0_; have HO251 := n1_; have BK244 := n2_; have HB := n3_; clear n0_ n1_ n2_ n3_; (try clear hb); (try clear hb2); (try clear hk); (try clear hi); (try clear ho0); obtain ⟨Ao34, co34, eo34⟩ := Kd.R_slice HO251.out; subst eo34; have hcz35_0 : w33.cell? ⟨gb244, 0, none⟩ = some (.int .i64 ((rd_T31 t236 x7_1).f0)) := (blk_cell BK244.out 0).trans rfl; have hcz35_1 : w33.cell? ⟨gb244, 1, none⟩ = some (.string ((rd_T31 t236 x7_1).f1)) := (blk_cell BK244.out 1).trans rfl; have hcz35_2 : w33.cell? ⟨gb244, 2, none⟩ = some (.int .i64 ((rd_T31 t236 x7_1).f2)) := (blk_cell BK244.out 2).trans rfl; have hfz35_0 := blk_frozen BK244.out 0; have hfz35_1 := blk_frozen BK244.out 1; have hfz35_2 := blk_frozen BK244.out 2)); try go_wp2_with (first | (go_at_call 9; (with_reducible refine (lex_Tokens.calls kj7 _ _ xs32 t247 t248 t249 _ ?side1 ?side2 A26.out).mono ?_); (case side1 => repeat (first | exact (Kd.C_below HR246.out HB.out) | (with_reducible refine Kd.C_alloc ?_ _) | (with_reducible refine Kd.C_drewN ?_ _) | (with_reducible refine Kd.C_drew ?_))); (case side2 => exact HC246.out); rintro e w33 ⟨v250, rfl, ho0, hb⟩; have n0_ := Aside0.mk (Kd.R_elder' (by (with_reducible repeat (first | apply Kd.R_alloc | apply Kd.R_drewN | apply Kd.R_drew)); exact HO_3.out) (Kd.R_base ho0) hb); have n1_ := Aside0.mk (Kd.R_lower (Kd.R_newB (Kd.R_new' ho0 (Kd.R_lt (by (with_reducible repeat (first | apply Kd.R_alloc | apply Kd.R_drewN | apply Kd.R_drew)); exact HO_3.out))) (g := gb244) (o := .cells #[.int .i64 ((rd_T31 t236 x7_1).f0), .string ((rd_T31 t236 x7_1).f1), .int .i64 ((rd_T31 t236 x7_1).f2)] 31 (0, 0)) (by (with_reducible repeat (first | refine blk_drewN ?_ _ | refine blk_drew ?_ | refine blk_alloc ?_ _)); exact BK244.out)) (below_size (by repeat (first | (with_reducible first | exact HB.out | apply below_alloc | apply pw_below_drewN | apply below_drew1 | refine below_set ?_ GE244.out) | exact HB.out)))); have n2_ := Aside0.mk (blk_below (g := gb244) (o := .cells #[.int .i64 ((rd_T31 t236 x7_1).f0), .string ((rd_T31 t236 x7_1).f1), .int .i64 ((rd_T31 t236 x7_1).f2)] 31 (0, 0)) (by (with_reducible repeat (first | refine blk_drewN ?_ _ | refine blk_drew ?_ | refine blk_alloc ?_ _)); exact BK244.out) hb); have n3_ := Aside0.mk (below_step (by repeat (first | (with_reducible first | exact HB.out | apply below_alloc | apply pw_below_drewN | apply below_drew1 | refine below_set ?_ GE244.out) | exact HB.out)) hb); clear HO_3; clear BK244; clear HB; have HO_3 := n0_; have HO251 := n1_; have BK244 := n2_; have HB := n3_; clear n0_ n1_ n2_ n3_; (try clear hb); (try clear hb2); (try clear hk); (try clear hi); (try clear ho0); obtain ⟨Ao34, co34, eo34⟩ := Kd.R_slice HO251.out; subst eo34; have hcz35_0 : w33.cell? ⟨gb244, 0, none⟩ = some (.int .i64 ((rd_T31 t236 x7_1).f0)) := (blk_cell BK244.out 0).trans rfl; have hcz35_1 : w33.cell? ⟨gb244, 1, none⟩ = some (.string ((rd_T31 t236 x7_1).f1)) := (blk_cell BK244.out 1).trans rfl; have hcz35_2 : w33.cell? ⟨gb244, 2, none⟩ = some (.int .i64 ((rd_T31 t236 x7_1).f2)) := (blk_cell BK244.out 2).trans rfl; have hfz35_0 := blk_frozen BK244.out 0; have hfz35_1 := blk_frozen BK244.out 1; have hfz35_2 := blk_frozen BK244.out 2)))
                                  go_roundg kj7
                                  case measure => have := HK1.out; have := HJ7.out; omega
                                  case rel => exact ⟨(wrap64 (((rd_T31 t236 x7_1).f2) + (((rd_T31 t236 x7_1).f1).size : Int))), (wrap64 (x7_1 + 1)), (by first | rfl | (simp; done) | (simp [*]; done)), (by first | rfl | (simp; done) | (simp [*]; done)), H', ⟨by have := HK1.out; have := HJ7.out; omega⟩, ⟨by (with_reducible repeat (first | apply Kd.R_alloc | apply Kd.R_drewN | apply Kd.R_drew)); exact Kd.R_mono HO_3.out (fun _ hk => trivial)⟩, ⟨by repeat (first | (with_reducible first | exact HB.out | apply below_alloc | apply pw_below_drewN | apply below_drew1 | refine below_set ?_ GE244.out) | exact HB.out)⟩⟩
                                · rw [if_neg c30] at H
                                  have c30b0 : (((rd_T31 t236 x7_1).f0) == 0) = false := beq_eq_false_iff_ne.mpr c30
                                  have c30c0 : (x7_1 == (wrap64 ((t236.length : Int) - 1))) = false := by
                                    have c30d := c29b0
                                    rw [c30b0] at c30d
                                    simpa using c30d
                                  have c30c1 : (x7_1 != (wrap64 ((t236.length : Int) - 1))) = true := by simp only [bne, c30c0, Bool.not_true, Bool.not_false]
                                  have c30b1 : (((rd_T31 t236 x7_1).f0) != 0) = true := bne_iff_ne.mpr c30
                                  replace H := Option.bind_eq_some_iff.mp H
                                  obtain ⟨t252, A360, H⟩ := H
                                  replace H : (if t252 = true then (foliotlaw04_LexCovers.l0 kj7 l0 t236 (wrap64 (((rd_T31 t236 x7_1).f2) + (((rd_T31 t236 x7_1).f1).size : Int))) (wrap64 (x7_1 + 1))) else (none)) = some r := H
                                  have A36 := Aside0.mk A360
                                  clear A360
                                  by_cases c37 : t252 = true
                                  · subst c37
                                    have H1 : (foliotlaw04_LexCovers.l0 kj7 l0 t236 (wrap64 (((rd_T31 t236 x7_1).f2) + (((rd_T31 t236 x7_1).f1).size : Int))) (wrap64 (x7_1 + 1))) = some r := by rw [if_pos rfl] at H; exact H
                                    clear H
                                    have H := H1
                                    clear H1
                                    have H' := Aside0.mk H
                                    clear H
                                    have hcz38_0 : wc.cell? ⟨gb244, 0, none⟩ = some (.int .i64 ((rd_T31 t236 x7_1).f0)) := (blk_cell BK244.out 0).trans rfl
                                    have hcz38_1 : wc.cell? ⟨gb244, 1, none⟩ = some (.string ((rd_T31 t236 x7_1).f1)) := (blk_cell BK244.out 1).trans rfl
                                    have hcz38_2 : wc.cell? ⟨gb244, 2, none⟩ = some (.int .i64 ((rd_T31 t236 x7_1).f2)) := (blk_cell BK244.out 2).trans rfl
                                    have hfz38_0 := blk_frozen BK244.out 0
                                    have hfz38_1 := blk_frozen BK244.out 1
                                    have hfz38_2 := blk_frozen BK244.out 2
                                    obtain ⟨i039, hi039, _, hsz39, _⟩ := info_parts info5
                                    obtain ⟨A39, hcut39, hA39, hC39⟩ := print_mid_of (P := Try.prog) (Value.int .u8) 0 22 5 .i64 .i64 Try.underlying22 hi039 hsz39 A0 c0 l0 x6_1 ((rd_T31 t236 x7_1).f2) (of_decide_eq_true (by first | (with_reducible assumption) | assumption)) (by first | omega | exact of_decide_eq_true (by first | (with_reducible assumption) | assumption)) (of_decide_eq_true (by first | (with_reducible assumption) | assumption)) HC0.out
                                    have HR246 := Aside0.mk (Kd.C_of_reads (h1 := fun _ => rfl) (hA39 _ (Kd.reads_of_C HR0.out)))
                                    have HC246 := Aside0.mk hC39
                                    clear hA39 hC39 hi039 hsz39
                                    obtain ⟨xs39, hxs39⟩ : ∃ x_ : List Int, x_ = ((l0.take (((rd_T31 t236 x7_1).f2) : Int).toNat).drop (x6_1 : Int).toNat) := ⟨_, rfl⟩
                                    rw [← hxs39] at hcut39 HR246 HC246 A26
                                    have Nxs39 := Aside0.mk hxs39
                                    clear hxs39
                                    go_wp2_with (first | (go_at_call 9; (with_reducible refine (lex_Tokens.calls kj7 _ _ xs39 t247 t248 t249 _ ?side1 ?side2 A26.out).mono ?_); (case side1 => repeat (first | exact (Kd.C_below HR246.out HB.out) | (with_reducible refine Kd.C_alloc ?_ _) | (with_reducible refine Kd.C_drewN ?_ _) | (with_reducible refine Kd.C_drew ?_))); (case side2 => exact HC246.out); rintro e w40 ⟨v250, rfl, ho0, hb⟩; have n0_ := Aside0.mk (Kd.R_elder' (by (with_reducible repeat (first | apply Kd.R_alloc | apply Kd.R_drewN | apply Kd.R_drew)); exact HO_3.out) (Kd.R_base ho0) hb); have n1_ := Aside0.mk (Kd.R_lower (Kd.R_newB (Kd.R_new' ho0 (Kd.R_lt (by (with_reducible repeat (first | apply Kd.R_alloc | apply Kd.R_drewN | apply Kd.R_drew)); exact HO_3.out))) (g := gb244) (o := .cells #[.int .i64 ((rd_T31 t236 x7_1).f0), .string ((rd_T31 t236 x7_1).f1), .int .i64 ((rd_T31 t236 x7_1).f2)] 31 (0, 0)) (by (with_reducible repeat (first | refine blk_drewN ?_ _ | refine blk_drew ?_ | refine blk_alloc ?_ _)); exact BK244.out)) (below_size (by repeat (first | (with_reducible first | exact HB.out | apply below_alloc | apply pw_below_drewN | apply below_drew1 | refine below_set ?_ GE244.out) | exact HB.out)))); have n2_ := Aside0.mk (blk_below (g := gb244) (o := .cells #[.int .i64 ((rd_T31 t236 x7_1).f0), .string ((rd_T31 t236 x7_1).f1), .int .i64 ((rd_T31 t236 x7_1).f2)] 31 (0, 0)) (by (with_reducible repeat (first | refine blk_drewN ?_ _ | refine blk_drew ?_ | refine blk_alloc ?_ _)); exact BK244.out) hb); have n3_ := Aside0.mk (below_step (by repeat (first | (with_reducible first | exact HB.out | apply below_alloc | apply pw_below_drewN | apply below_drew1 | refine below_set ?_ GE244.out) | exact HB.out)) hb); clear HO_3; clear BK244; clear HB; have HO_3 := n0_; have HO251 := n1_; have BK244 := n2_; have HB := n3_; clear n0_ n1_ n2_ n3_; (try clear hb); (try clear hb2); (try clear hk); (try clear hi); (try clear ho0); obtain ⟨Ao41, co41, eo41⟩ := Kd.R_slice HO251.out; subst eo41; have hcz42_0 : w40.cell? ⟨gb244, 0, none⟩ = some (.int .i64 ((rd_T31 t236 x7_1).f0)) := (blk_cell BK244.out 0).trans rfl; have hcz42_1 : w40.cell? ⟨gb244, 1, none⟩ = some (.string ((rd_T31 t236 x7_1).f1)) := (blk_cell BK244.out 1).trans rfl; have hcz42_2 : w40.cell? ⟨gb244, 2, none⟩ = some (.int .i64 ((rd_T31 t236 x7_1).f2)) := (blk_cell BK244.out 2).trans rfl; have hfz42_0 := blk_frozen BK244.out 0; have hfz42_1 := blk_frozen BK244.out 1; have hfz42_2 := blk_frozen BK244.out 2) | (go_at_call 13; (with_reducible refine (lex_Right.calls kj7 ((rd_T31 t236 x7_1).f0) ((rd_T31 t236 x7_1).f1) ((rd_T31 t236 x7_1).f2) true _ A36.out).mono ?_); rintro e w43 ⟨rfl, hb⟩; have n0_ := Aside0.mk (Kd.R_below (by (with_reducible repeat (first | apply Kd.R_alloc | apply Kd.R_drewN | apply Kd.R_drew)); exact HO_3.out) hb); have n1_ := Aside0.mk (Kd.R_below (by (with_reducible repeat (first | apply Kd.R_alloc | apply Kd.R_drewN | apply Kd.R_drew)); exact HO251.out) hb); have n2_ := Aside0.mk (blk_below (g := gb244) (o := .cells #[.int .i64 ((rd_T31 t236 x7_1).f0), .string ((rd_T31 t236 x7_1).f1), .int .i64 ((rd_T31 t236 x7_1).f2)] 31 (0, 0)) (by (with_reducible repeat (first | refine blk_drewN ?_ _ | refine blk_drew ?_ | refine blk_alloc ?_ _)); exact BK244.out) hb); have n3_ := Aside0.mk (below_step (by repeat (first | (with_reducible first | exact HB.out | apply below_alloc | apply pw_below_drewN | apply below_drew1 | refine below_set ?_ GE244.out) | exact HB.out)) hb); clear HO_3; clear HO251; clear BK244; clear HB; have HO_3 := n0_; have HO251 := n1_; have BK244 := n2_; have HB := n3_; clear n0_ n1_ n2_ n3_; (try clear hb); (try clear hb2); (try clear hk); (try clear hi); have hcz44_0 : w43.cell? ⟨gb244, 0, none⟩ = some (.int .i64 ((rd_T31 t236 x7_1).f0)) := (blk_cell BK244.out 0).trans rfl; have hcz44_1 : w43.cell? ⟨gb244, 1, none⟩ = some (.string ((rd_T31 t236 x7_1).f1)) := (blk_cell BK244.out 1).trans rfl; have hcz44_2 : w43.cell? ⟨gb244, 2, none⟩ = some (.int .i64 ((rd_T31 t236 x7_1).f2)) := (blk_cell BK244.out 2).trans rfl; have hfz44_0 := blk_frozen BK244.out 0; have hfz44_1 := blk_frozen BK244.out 1; have hfz44_2 := blk_frozen BK244.out 2))
                                    repeat (go_quiet (first | (go_at_call 9; (with_reducible refine (lex_Tokens.calls kj7 _ _ xs39 t247 t248 t249 _ ?side1 ?side2 A26.out).mono ?_); (case side1 => repeat (first | exact (Kd.C_below HR246.out HB.out) | (with_reducible refine Kd.C_alloc ?_ _) | (with_reducible refine Kd.C_drewN ?_ _) | (with_reducible refine Kd.C_drew ?_))); (case side2 => exact HC246.out); rintro e w40 ⟨v250, rfl, ho0, hb⟩; have n0_ := Aside0.mk (Kd.R_elder' (by (with_reducible repeat (first | apply Kd.R_alloc | apply Kd.R_drewN | apply Kd.R_drew)); exact HO_3.out) (Kd.R_base ho0) hb); have n1_ := Aside0.mk (Kd.R_lower (Kd.R_newB (Kd.R_new' ho0 (Kd.R_lt (by (with_reducible repeat (first | apply Kd.R_alloc | apply Kd.R_drewN | apply Kd.R_drew)); exact HO_3.out))) (g := gb244) (o := .cells #[.int .i64 ((rd_T31 t236 x7_1).f0), .string ((rd_T31 t236 x7_1).f1), .int .i64 ((rd_T31 t236 x7_1).f2)] 31 (0, 0)) (by (with_reducible repeat (first | refine blk_drewN ?_ _ | refine blk_drew ?_ | refine blk_alloc ?_ _)); exact BK244.out)) (below_size (by repeat (first | (with_reducible first | exact HB.out | apply below_alloc | apply pw_below_drewN | apply below_drew1 | refine below_set ?_ GE244.out) | exact HB.out)))); have n2_ := Aside0.mk (blk_below (g := gb244) (o := .cells #[.int .i64 ((rd_T31 t236 x7_1).f0), .string ((rd_T31 t236 x7_1).f1), .int .i64 ((rd_T31 t236 x7_1).f2)] 31 (0, 0)) (by (with_reducible repeat (first | refine blk_drewN ?_ _ | refine blk_drew ?_ | refine blk_alloc ?_ _)); exact BK244.out) hb); have n3_ := Aside0.mk (below_step (by repeat (first | (with_reducible first | exact HB.out | apply below_alloc | apply pw_below_drewN | apply below_drew1 | refine below_set ?_ GE244.out) | exact HB.out)) hb); clear HO_3; clear BK244; clear HB; have HO_3 := n0_; have HO251 := n1_; have BK244 := n2_; have HB := n3_; clear n0_ n1_ n2_ n3_; (try clear hb); (try clear hb2); (try clear hk); (try clear hi); (try clear ho0); obtain ⟨Ao41, co41, eo41⟩ := Kd.R_slice HO251.out; subst eo41; have hcz42_0 : w40.cell? ⟨gb244, 0, none⟩ = some (.int .i64 ((rd_T31 t236 x7_1).f0)) := (blk_cell BK244.out 0).trans rfl; have hcz42_1 : w40.cell? ⟨gb244, 1, none⟩ = some (.string ((rd_T31 t236 x7_1).f1)) := (blk_cell BK244.out 1).trans rfl; have hcz42_2 : w40.cell? ⟨gb244, 2, none⟩ = some (.int .i64 ((rd_T31 t236 x7_1).f2)) := (blk_cell BK244.out 2).trans rfl; have hfz42_0 := blk_frozen BK244.out 0; have hfz42_1 := blk_frozen BK244.out 1; have hfz42_2 := blk_frozen BK244.out 2) | (go_at_call 13; (with_reducible refine (lex_Right.calls kj7 ((rd_T31 t236 x7_1).f0) ((rd_T31 t236 x7_1).f1) ((rd_T31 t236 x7_1).f2) true _ A36.out).mono ?_); rintro e w43 ⟨rfl, hb⟩; have n0_ := Aside0.mk (Kd.R_below (by (with_reducible repeat (first | apply Kd.R_alloc | apply Kd.R_drewN | apply Kd.R_drew)); exact HO_3.out) hb); have n1_ := Aside0.mk (Kd.R_below (by (with_reducible repeat (first | apply Kd.R_alloc | apply Kd.R_drewN | apply Kd.R_drew)); exact HO251.out) hb); have n2_ := Aside0.mk (blk_below (g := gb244) (o := .cells #[.int .i64 ((rd_T31 t236 x7_1).f0), .string ((rd_T31 t236 x7_1).f1), .int .i64 ((rd_T31 t236 x7_1).f2)] 31 (0, 0)) (by (with_reducible repeat (first | refine blk_drewN ?_ _ | refine blk_drew ?_ | refine blk_alloc ?_ _)); exact BK244.out) hb); have n3_ := Aside0.mk (below_step (by repeat (first | (with_reducible first | exact HB.out | apply below_alloc | apply pw_below_drewN | apply below_drew1 | refine below_set ?_ GE244.out) | exact HB.out)) hb); clear HO_3; clear HO251; clear BK244; clear HB; have HO_3 := n0_; have HO251 := n1_; have BK244 := n2_; have HB := n3_; clear n0_ n1_ n2_ n3_; (try clear hb); (try clear hb2); (try clear hk); (try clear hi); have hcz44_0 : w43.cell? ⟨gb244, 0, none⟩ = some (.int .i64 ((rd_T31 t236 x7_1).f0)) := (blk_cell BK244.out 0).trans rfl; have hcz44_1 : w43.cell? ⟨gb244, 1, none⟩ = some (.string ((rd_T31 t236 x7_1).f1)) := (blk_cell BK244.out 1).trans rfl; have hcz44_2 : w43.cell? ⟨gb244, 2, none⟩ = some (.int .i64 ((rd_T31 t236 x7_1).f2)) := (blk_cell BK244.out 2).trans rfl; have hfz44_0 := blk_frozen BK244.out 0; have hfz44_1 := blk_frozen BK244.out 1; have hfz44_2 := blk_frozen BK244.out 2)); try go_wp2_with (first | (go_at_call 9; (with_reducible refine (lex_Tokens.calls kj7 _ _ xs39 t247 t248 t249 _ ?side1 ?side2 A26.out).mono ?_); (case side1 => repeat (first | exact (Kd.C_below HR246.out HB.out) | (with_reducible refine Kd.C_alloc ?_ _) | (with_reducible refine Kd.C_drewN ?_ _) | (with_reducible refine Kd.C_drew ?_))); (case side2 => exact HC246.out); rintro e w40 ⟨v250, rfl, ho0, hb⟩; have n0_ := Aside0.mk (Kd.R_elder' (by (with_reducible repeat (first | apply Kd.R_alloc | apply Kd.R_drewN | apply Kd.R_drew)); exact HO_3.out) (Kd.R_base ho0) hb); have n1_ := Aside0.mk (Kd.R_lower (Kd.R_newB (Kd.R_new' ho0 (Kd.R_lt (by (with_reducible repeat (first | apply Kd.R_alloc | apply Kd.R_drewN | apply Kd.R_drew)); exact HO_3.out))) (g := gb244) (o := .cells #[.int .i64 ((rd_T31 t236 x7_1).f0), .string ((rd_T31 t236 x7_1).f1), .int .i64 ((rd_T31 t236 x7_1).f2)] 31 (0, 0)) (by (with_reducible repeat (first | refine blk_drewN ?_ _ | refine blk_drew ?_ | refine blk_alloc ?_ _)); exact BK244.out)) (below_size (by repeat (first | (with_reducible first | exact HB.out | apply below_alloc | apply pw_below_drewN | apply below_drew1 | refine below_set ?_ GE244.out) | exact HB.out)))); have n2_ := Aside0.mk (blk_below (g := gb244) (o := .cells #[.int .i64 ((rd_T31 t236 x7_1).f0), .string ((rd_T31 t236 x7_1).f1), .int .i64 ((rd_T31 t236 x7_1).f2)] 31 (0, 0)) (by (with_reducible repeat (first | refine blk_drewN ?_ _ | refine blk_drew ?_ | refine blk_alloc ?_ _)); exact BK244.out) hb); have n3_ := Aside0.mk (below_step (by repeat (first | (with_reducible first | exact HB.out | apply below_alloc | apply pw_below_drewN | apply below_drew1 | refine below_set ?_ GE244.out) | exact HB.out)) hb); clear HO_3; clear BK244; clear HB; have HO_3 := n0_; have HO251 := n1_; have BK244 := n2_; have HB := n3_; clear n0_ n1_ n2_ n3_; (try clear hb); (try clear hb2); (try clear hk); (try clear hi); (try clear ho0); obtain ⟨Ao41, co41, eo41⟩ := Kd.R_slice HO251.out; subst eo41; have hcz42_0 : w40.cell? ⟨gb244, 0, none⟩ = some (.int .i64 ((rd_T31 t236 x7_1).f0)) := (blk_cell BK244.out 0).trans rfl; have hcz42_1 : w40.cell? ⟨gb244, 1, none⟩ = some (.string ((rd_T31 t236 x7_1).f1)) := (blk_cell BK244.out 1).trans rfl; have hcz42_2 : w40.cell? ⟨gb244, 2, none⟩ = some (.int .i64 ((rd_T31 t236 x7_1).f2)) := (blk_cell BK244.out 2).trans rfl; have hfz42_0 := blk_frozen BK244.out 0; have hfz42_1 := blk_frozen BK244.out 1; have hfz42_2 := blk_frozen BK244.out 2) | (go_at_call 13; (with_reducible refine (lex_Right.calls kj7 ((rd_T31 t236 x7_1).f0) ((rd_T31 t236 x7_1).f1) ((rd_T31 t236 x7_1).f2) true _ A36.out).mono ?_); rintro e w43 ⟨rfl, hb⟩; have n0_ := Aside0.mk (Kd.R_below (by (with_reducible repeat (first | apply Kd.R_alloc | apply Kd.R_drewN | apply Kd.R_drew)); exact HO_3.out) hb); have n1_ := Aside0.mk (Kd.R_below (by (with_reducible repeat (first | apply Kd.R_alloc | apply Kd.R_drewN | apply Kd.R_drew)); exact HO251.out) hb); have n2_ := Aside0.mk (blk_below (g := gb244) (o := .cells #[.int .i64 ((rd_T31 t236 x7_1).f0), .string ((rd_T31 t236 x7_1).f1), .int .i64 ((rd_T31 t236 x7_1).f2)] 31 (0, 0)) (by (with_reducible repeat (first | refine blk_drewN ?_ _ | refine blk_drew ?_ | refine blk_alloc ?_ _)); exact BK244.out) hb); have n3_ := Aside0.mk (below_step (by repeat (first | (with_reducible first | exact HB.out | apply below_alloc | apply pw_below_drewN | apply below_drew1 | refine below_set ?_ GE244.out) | exact HB.out)) hb); clear HO_3; clear HO251; clear BK244; clear HB; have HO_3 := n0_; have HO251 := n1_; have BK244 := n2_; have HB := n3_; clear n0_ n1_ n2_ n3_; (try clear hb); (try clear hb2); (try clear hk); (try clear hi); have hcz44_0 : w43.cell? ⟨gb244, 0, none⟩ = some (.int .i64 ((rd_T31 t236 x7_1).f0)) := (blk_cell BK244.out 0).trans rfl; have hcz44_1 : w43.cell? ⟨gb244, 1, none⟩ = some (.string ((rd_T31 t236 x7_1).f1)) := (blk_cell BK244.out 1).trans rfl; have hcz44_2 : w43.cell? ⟨gb244, 2, none⟩ = some (.int .i64 ((rd_T31 t236 x7_1).f2)) := (blk_cell BK244.out 2).trans rfl; have hfz44_0 := blk_frozen BK244.out 0; have hfz44_1 := blk_frozen BK244.out 1; have hfz44_2 := blk_frozen BK244.out 2)))
                                    go_roundg kj7
                                    case measure => have := HK1.out; have := HJ7.out; omega
                                    case rel => exact ⟨(wrap64 (((rd_T31 t236 x7_1).f2) + (((rd_T31 t236 x7_1).f1).size : Int))), (wrap64 (x7_1 + 1)), (by first | rfl | (simp; done) | (simp [*]; done)), (by first | rfl | (simp; done) | (simp [*]; done)), H', ⟨by have := HK1.out; have := HJ7.out; omega⟩, ⟨by (with_reducible repeat (first | apply Kd.R_alloc | apply Kd.R_drewN | apply Kd.R_drew)); exact Kd.R_mono HO_3.out (fun _ hk => trivial)⟩, ⟨by repeat (first | (with_reducible first | exact HB.out | apply below_alloc | apply pw_below_drewN | apply below_drew1 | refine below_set ?_ GE244.out) | exact HB.out)⟩⟩
                                  · replace c37 := Bool.eq_false_iff.mpr c37
                                    subst c37
                                    have H1 : (none) = some r := by rw [if_neg (show ¬ (false = true) by decide)] at H; exact H
                                    clear H
                                    have H := H1
                                    clear H1
                                    exact absurd H (by simp)
                            · rw [if_neg c28] at H
                              exact absurd H (by simp)
                          · rw [if_neg c27] at H
                            exact absurd H (by simp)
                        · rw [if_neg c25] at H
                          exact absurd H (by simp)
                      · rw [if_neg c24] at H
                        exact absurd H (by simp)
                    · rw [if_neg c23] at H
                      exact absurd H (by simp)
            · rw [if_neg c7] at H
              exact absurd H (by simp)
          · rw [if_neg c6] at H
            have c6b0 : decide (x7_1 < (t236.length : Int)) = false := decide_eq_false c6
            clear c6
            by_cases c45 : (t236.length : Int) > 0
            · rw [if_pos c45] at H
              have c45b0 : decide (0 < (t236.length : Int)) = true := decide_eq_true c45
              have c45b1 : decide (0 < t236.length) = true := decide_eq_true (by omega)
              clear c45
              replace H := Option.bind_eq_some_iff.mp H
              obtain ⟨t242, A460, H⟩ := H
              replace H : (some t242) = some r := H
              have A46 := Aside0.mk A460
              clear A460
              obtain rfl := Option.some.inj H
              obtain ⟨Ao47, co47, eo47⟩ := Kd.R_slice HO_3.out
              subst eo47
              go_wp2_with (first | (go_at_call 12; (with_reducible refine (foliotlaw04_awake.calls k1  t242 _ A46.out).mono ?_); rintro e w48 ⟨rfl, hb⟩; have n0_ := Aside0.mk (Kd.R_below (by (with_reducible repeat (first | apply Kd.R_alloc | apply Kd.R_drewN | apply Kd.R_drew)); exact HO_3.out) hb); have n1_ := Aside0.mk (below_step (by repeat (first | (with_reducible first | exact HB.out | apply below_alloc | apply pw_below_drewN | apply below_drew1) | exact HB.out)) hb); clear HO_3; clear HB; have HO_3 := n0_; have HB := n1_; clear n0_ n1_; (try clear hb); (try clear hb2); (try clear hk); (try clear hi)))
              repeat (go_quiet (first | (go_at_call 12; (with_reducible refine (foliotlaw04_awake.calls k1  t242 _ A46.out).mono ?_); rintro e w48 ⟨rfl, hb⟩; have n0_ := Aside0.mk (Kd.R_below (by (with_reducible repeat (first | apply Kd.R_alloc | apply Kd.R_drewN | apply Kd.R_drew)); exact HO_3.out) hb); have n1_ := Aside0.mk (below_step (by repeat (first | (with_reducible first | exact HB.out | apply below_alloc | apply pw_below_drewN | apply below_drew1) | exact HB.out)) hb); clear HO_3; clear HB; have HO_3 := n0_; have HB := n1_; clear n0_ n1_; (try clear hb); (try clear hb2); (try clear hk); (try clear hi))); try go_wp2_with (first | (go_at_call 12; (with_reducible refine (foliotlaw04_awake.calls k1  t242 _ A46.out).mono ?_); rintro e w48 ⟨rfl, hb⟩; have n0_ := Aside0.mk (Kd.R_below (by (with_reducible repeat (first | apply Kd.R_alloc | apply Kd.R_drewN | apply Kd.R_drew)); exact HO_3.out) hb); have n1_ := Aside0.mk (below_step (by repeat (first | (with_reducible first | exact HB.out | apply below_alloc | apply pw_below_drewN | apply below_drew1) | exact HB.out)) hb); clear HO_3; clear HB; have HO_3 := n0_; have HB := n1_; clear n0_ n1_; (try clear hb); (try clear hb2); (try clear hk); (try clear hi))))
              go_ret
              exact ⟨by first | rfl | (simp [errW_none, errW_some] <;> rfl) | (simp [*, errW_none, errW_some] <;> rfl), by repeat (first | (with_reducible first | exact HB.out | apply below_alloc | apply pw_below_drewN | apply below_drew1) | exact HB.out)⟩
            · rw [if_neg c45] at H
              exact absurd H (by simp)
    · rw [if_neg c4] at H
      have c4b0 : (t237 == 0) = false := beq_eq_false_iff_ne.mpr c4
      have c4b1 : (t237 != 0) = true := bne_iff_ne.mpr c4
      by_cases c49 : t238 ≥ 0
      · rw [if_pos c49] at H
        have c49b0 : decide (0 ≤ t238) = true := decide_eq_true c49
        clear c49
        by_cases c50 : t238 ≤ (l0.length : Int)
        · rw [if_pos c50] at H
          have c50b0 : decide (t238 ≤ (l0.length : Int)) = true := decide_eq_true c50
          clear c50
          by_cases c51 : (t236.length : Int) = 0
          · rw [if_pos c51] at H
            have c51b0 : ((t236.length : Int) == 0) = true := beq_iff_eq.mpr c51
            have c51b1 : ((t236.length : Int) != 0) = false := bne_eq_false_iff_eq.mpr c51
            clear c51
            replace H := Option.bind_eq_some_iff.mp H
            obtain ⟨t241, A520, H⟩ := H
            replace H : (some t241) = some r := H
            have A52 := Aside0.mk A520
            clear A520
            obtain rfl := Option.some.inj H
            go_enter Try.func6, Try.ntmps6
            go_wp2_with (first | (go_at_call 9; (with_reducible refine (lex_Tokens.calls k _ _ l0 t236 t237 t238 _ ?side1 ?side2 A3.out).mono ?_); (case side1 => repeat (first | exact HR0.out | (with_reducible refine Kd.C_alloc ?_ _) | (with_reducible refine Kd.C_drewN ?_ _) | (with_reducible refine Kd.C_drew ?_))); (case side2 => exact HC0.out); rintro e w53 ⟨v239, rfl, ho0, hb⟩; have n0_ := Aside0.mk (Kd.R_lower ho0 (below_size (by repeat (first | (with_reducible first | exact HB.out | apply below_alloc | apply pw_below_drewN | apply below_drew1) | exact HB.out)))); have n1_ := Aside0.mk (below_step (by repeat (first | (with_reducible first | exact HB.out | apply below_alloc | apply pw_below_drewN | apply below_drew1) | exact HB.out)) hb); clear HB; have HO240 := n0_; have HB := n1_; clear n0_ n1_; (try clear hb); (try clear hb2); (try clear hk); (try clear hi); (try clear ho0); obtain ⟨Ao54, co54, eo54⟩ := Kd.R_slice HO240.out; subst eo54) | (go_at_call 12; (with_reducible refine (foliotlaw04_awake.calls k  t241 _ A52.out).mono ?_); rintro e w55 ⟨rfl, hb⟩; have n0_ := Aside0.mk (Kd.R_below (by (with_reducible repeat (first | apply Kd.R_alloc | apply Kd.R_drewN | apply Kd.R_drew)); exact HO240.out) hb); have n1_ := Aside0.mk (below_step (by repeat (first | (with_reducible first | exact HB.out | apply below_alloc | apply pw_below_drewN | apply below_drew1) | exact HB.out)) hb); clear HO240; clear HB; have HO240 := n0_; have HB := n1_; clear n0_ n1_; (try clear hb); (try clear hb2); (try clear hk); (try clear hi)))
            repeat (go_quiet (first | (go_at_call 9; (with_reducible refine (lex_Tokens.calls k _ _ l0 t236 t237 t238 _ ?side1 ?side2 A3.out).mono ?_); (case side1 => repeat (first | exact HR0.out | (with_reducible refine Kd.C_alloc ?_ _) | (with_reducible refine Kd.C_drewN ?_ _) | (with_reducible refine Kd.C_drew ?_))); (case side2 => exact HC0.out); rintro e w53 ⟨v239, rfl, ho0, hb⟩; have n0_ := Aside0.mk (Kd.R_lower ho0 (below_size (by repeat (first | (with_reducible first | exact HB.out | apply below_alloc | apply pw_below_drewN | apply below_drew1) | exact HB.out)))); have n1_ := Aside0.mk (below_step (by repeat (first | (with_reducible first | exact HB.out | apply below_alloc | apply pw_below_drewN | apply below_drew1) | exact HB.out)) hb); clear HB; have HO240 := n0_; have HB := n1_; clear n0_ n1_; (try clear hb); (try clear hb2); (try clear hk); (try clear hi); (try clear ho0); obtain ⟨Ao54, co54, eo54⟩ := Kd.R_slice HO240.out; subst eo54) | (go_at_call 12; (with_reducible refine (foliotlaw04_awake.calls k  t241 _ A52.out).mono ?_); rintro e w55 ⟨rfl, hb⟩; have n0_ := Aside0.mk (Kd.R_below (by (with_reducible repeat (first | apply Kd.R_alloc | apply Kd.R_drewN | apply Kd.R_drew)); exact HO240.out) hb); have n1_ := Aside0.mk (below_step (by repeat (first | (with_reducible first | exact HB.out | apply below_alloc | apply pw_below_drewN | apply below_drew1) | exact HB.out)) hb); clear HO240; clear HB; have HO240 := n0_; have HB := n1_; clear n0_ n1_; (try clear hb); (try clear hb2); (try clear hk); (try clear hi))); try go_wp2_with (first | (go_at_call 9; (with_reducible refine (lex_Tokens.calls k _ _ l0 t236 t237 t238 _ ?side1 ?side2 A3.out).mono ?_); (case side1 => repeat (first | exact HR0.out | (with_reducible refine Kd.C_alloc ?_ _) | (with_reducible refine Kd.C_drewN ?_ _) | (with_reducible refine Kd.C_drew ?_))); (case side2 => exact HC0.out); rintro e w53 ⟨v239, rfl, ho0, hb⟩; have n0_ := Aside0.mk (Kd.R_lower ho0 (below_size (by repeat (first | (with_reducible first | exact HB.out | apply below_alloc | apply pw_below_drewN | apply below_drew1) | exact HB.out)))); have n1_ := Aside0.mk (below_step (by repeat (first | (with_reducible first | exact HB.out | apply below_alloc | apply pw_below_drewN | apply below_drew1) | exact HB.out)) hb); clear HB; have HO240 := n0_; have HB := n1_; clear n0_ n1_; (try clear hb); (try clear hb2); (try clear hk); (try clear hi); (try clear ho0); obtain ⟨Ao54, co54, eo54⟩ := Kd.R_slice HO240.out; subst eo54) | (go_at_call 12; (with_reducible refine (foliotlaw04_awake.calls k  t241 _ A52.out).mono ?_); rintro e w55 ⟨rfl, hb⟩; have n0_ := Aside0.mk (Kd.R_below (by (with_reducible repeat (first | apply Kd.R_alloc | apply Kd.R_drewN | apply Kd.R_drew)); exact HO240.out) hb); have n1_ := Aside0.mk (below_step (by repeat (first | (with_reducible first | exact HB.out | apply below_alloc | apply pw_below_drewN | apply below_drew1) | exact HB.out)) hb); clear HO240; clear HB; have HO240 := n0_; have HB := n1_; clear n0_ n1_; (try clear hb); (try clear hb2); (try clear hk); (try clear hi))))
            go_ret
            exact ⟨by first | rfl | (simp [errW_none, errW_some] <;> rfl) | (simp [*, errW_none, errW_some] <;> rfl), by repeat (first | (with_reducible first | exact HB.out | apply below_alloc | apply pw_below_drewN | apply below_drew1) | exact HB.out)⟩
          · rw [if_neg c51] at H
            exact absurd H (by simp)
        · rw [if_neg c50] at H
          exact absurd H (by simp)
      · rw [if_neg c49] at H
        exact absurd H (by simp)

/-- THE ONE PURE STATEMENT of foliotlaw04_LexCovers: yours. -/
def foliotlaw04_LexCovers.Pure : Prop := ∀ (l0 : List Int), l0.length ≤ maxLen → l0.length * 1 ≤ 140737488351232 → (∀ x ∈ l0, (Lit.int .u8 x).wf = true) → ∃ k, foliotlaw04_LexCovers.f k l0 = some true
theorem foliotlaw04_LexCovers.walk (P : foliotlaw04_LexCovers.Pure) (a0 : Option Addr) (len0 cap0 : Nat) (z0 : List Int) (w : World) (w0 : (a0 = none ∧ len0 = 0 ∧ cap0 = 0 ∧ z0 = []) ∨ ∃ x, a0 = some x ∧ len0 ≤ cap0 ∧ cap0 ≤ maxLen ∧ z0.length = cap0 ∧ (∀ i, i < z0.length → w.cell? (x.add i) = some (.int .u8 (z0.getD i 0))) ∧ ∀ n ∈ z0, (Lit.int .u8 n).wf = true) (y0 : len0 * 1 ≤ 140737488351232) :
    Calls Try.prog 6 #[.slice a0 len0 cap0] w fun e w' => e = .returned (.bool true) ∧ Below w.heap.size w w' := by
  obtain ⟨l0, rfl, hr0, hm0, hw0, hc0⟩ := ReadsInt.ofRowC w0
  obtain ⟨k, h⟩ := P l0 hm0 y0 hw0
  refine (foliotlaw04_LexCovers.calls k _ _ l0 true w (Kd.C_of_reads (d := (0 : Int)) (h1 := fun _ => rfl) hr0) hc0 h).mono ?_
  rintro e w' ⟨rfl, hd⟩
  exact ⟨rfl, hd⟩

end Go.Proofs.Ytnnjanhibomijaa.A
