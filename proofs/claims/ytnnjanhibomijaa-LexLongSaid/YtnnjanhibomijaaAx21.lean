-- printed by a program of this session, by way of the kit's printer
import Derived.Test.YtnnjanhibomijaaAx0
import Derived.Test.YtnnjanhibomijaaAx10
import Derived.Test.YtnnjanhibomijaaAx18
namespace Go.Proofs.Ytnnjanhibomijaa.A
open Go.RowKit Go.Proofs.YtnnjanhibomijaaW.PrintWords Go.Proofs.YtnnjanhibomijaaW.PrintLast Go.Proofs.YtnnjanhibomijaaW.PrintMore
attribute [local go_sem] max2_int min2_int max_two min_two max_three min_three max_four min_four   -- for this text's walks alone
set_option linter.unusedVariables false
set_option linter.unusedSimpArgs false

/-! ### foliotlaw04_LexLong: function 5 -/
def foliotlaw04_LexLong.l0 : Nat → List Int → Int → Int → Option (Bool)
  | 0, _, _, _ => none
  | k + 1, x1, x11, x12 => if x12 < x11 then (if 0 ≤ x12 then (if x12 < (x1.length : Int) then (foliotlaw04_LexLong.l0 k (x1.set (x12 : Int).toNat 32) x11 (wrap64 (x12 + 1))) else (none)) else (none)) else (if 0 < (x1.length : Int) then ((some (x1.set (0 : Int).toNat 120 : List Int)).bind fun y220 => ((lex_Tokens.f k y220).bind fun bt221 => (if y220.length < 140737488355328 then ((lex_Tokens.f k (y220 ++ [32])).bind fun bt229 => (if bt221.2.1 = 0 then (if (bt221.1.length : Int) = 2 then (if 1 < (bt221.1.length : Int) then (if ((rd_T31 bt221.1 1).f2) = 65536 then (if bt229.2.1 = 2 then (if bt229.2.2 = 65536 then ((foliotlaw04_awake.f k).bind fun t235 => (some t235)) else (none)) else (none)) else (none)) else (none)) else (none)) else (none))) else (none)))) else (none))
def foliotlaw04_LexLong.f (k : Nat)  : Option (Bool) := if 65536 ≤ 281474976710656 then ((some (List.replicate 65536 0 : List Int)).bind fun y216 => (foliotlaw04_LexLong.l0 k y216 (y216.length : Int) 0)) else (none)
theorem foliotlaw04_LexLong.mono_l : ∀ k, (∀ y0 y1 y2, LeO (foliotlaw04_LexLong.l0 k y0 y1 y2) (foliotlaw04_LexLong.l0 (k + 1) y0 y1 y2))
  | 0 => fun _ _ _ r h => by simp [foliotlaw04_LexLong.l0] at h
  | k + 1 => by
    have ih0 := foliotlaw04_LexLong.mono_l k
    · intro y0 y1 y2
      unfold foliotlaw04_LexLong.l0
      repeat' first
      | (with_reducible exact ih0 _ _ _)
      | (with_reducible exact foliotlaw04_awake.mono _)
      | (with_reducible exact lex_Tokens.mono _ _)
      | (with_reducible exact LeO.refl _)
      | (with_reducible exact LeO.none _)
      | (with_reducible refine LeO.ite ?_ ?_)
      | (with_reducible refine LeO.bind ?_ (fun _ => ?_))
      | exact ih0 _ _ _
      | exact foliotlaw04_awake.mono _
      | exact lex_Tokens.mono _ _
      | exact LeO.none _
      | refine LeO.ite ?_ ?_
      | refine LeO.bind ?_ (fun _ => ?_)
theorem foliotlaw04_LexLong.mono : ∀ k, LeO (foliotlaw04_LexLong.f k ) (foliotlaw04_LexLong.f (k + 1) ) := by
  intro  k
  have ih0 := foliotlaw04_LexLong.mono_l k
  unfold foliotlaw04_LexLong.f
  repeat' first
      | (with_reducible exact ih0 _ _ _)
      | (with_reducible exact foliotlaw04_awake.mono _)
      | (with_reducible exact lex_Tokens.mono _ _)
      | (with_reducible exact LeO.refl _)
      | (with_reducible exact LeO.none _)
      | (with_reducible refine LeO.ite ?_ ?_)
      | (with_reducible refine LeO.bind ?_ (fun _ => ?_))
      | exact ih0 _ _ _
      | exact foliotlaw04_awake.mono _
      | exact lex_Tokens.mono _ _
      | exact LeO.none _
      | refine LeO.ite ?_ ?_
      | refine LeO.bind ?_ (fun _ => ?_)
set_option maxHeartbeats 8000000 in
set_option maxRecDepth 100000 in
theorem foliotlaw04_LexLong.calls (k : Nat)  (r : Bool) (w : World) (h : foliotlaw04_LexLong.f k  = some r) :
    Calls Try.prog 5 #[] w fun e w' => e = .returned (.bool r) ∧ Below w.heap.size w w' := by
  have HB := Aside0.mk (Below.refl w.heap.size w)
  have H : (if 65536 ≤ 281474976710656 then ((some (List.replicate 65536 0 : List Int)).bind fun y216 => (foliotlaw04_LexLong.l0 k y216 (y216.length : Int) 0)) else (none)) = some r := h
  clear h
  by_cases c1 : 65536 ≤ 281474976710656
  · rw [if_pos c1] at H
    have c1b0 := eq_true c1
    have c1b1 : decide (65536 ≤ 281474976710656) = true := decide_eq_true c1
    clear c1
    obtain ⟨y216, hy216⟩ : ∃ y_ : List Int, y_ = (List.replicate 65536 0) := ⟨_, rfl⟩
    replace H : (foliotlaw04_LexLong.l0 k y216 (y216.length : Int) 0) = some r := by first | (rw [hy216]; with_reducible exact H) | (have H2_ := (Option.bind_some _ _).symm.trans H; rw [hy216]; with_reducible exact H2_) | (have H2_ := (Option.bind_some _ _).symm.trans H; with_reducible exact H2_) | with_reducible exact H | (rw [hy216]; exact H) | exact H
    have Ny216 := Aside0.mk hy216
    clear hy216
    have H' := Aside0.mk H
    clear H
    go_enter Try.func5, Try.ntmps5
    go_wp2_with (first | ((with_reducible refine gate_dst (N := 9) rfl ?_); (try (refine gate_guard (by rfl) ?_; dsimp only)); refine Kd.R_make (Kd.int .u8) _ 5 rfl (N := 9) rfl 22 _ _ rfl 65536 rfl rfl Try.underlying22 (.int .u8 0) 1 info5 rfl (by decide) (by omega) 0 (ok := fun _ => True) (okp := fun _ => True) rfl (fun _ hk => hk) trivial (by omega) (by omega) (Below.refl _ _) (Nat.le_refl _) ?_; intro v217 w2 ho3 hb hg_ hnew_; clear hg_ hnew_; (first | rw [← Ny216.out] at ho3 | (simp only [Int.reduceToNat] at ho3; rw [← Ny216.out] at ho3)); have n0_ := Aside0.mk (Kd.R_lower ho3 (below_size (by repeat (first | (with_reducible first | exact HB.out | apply below_alloc | apply pw_below_drewN | apply below_drew1) | exact HB.out)))); have n1_ := Aside0.mk (below_step (by repeat (first | (with_reducible first | exact HB.out | apply below_alloc | apply pw_below_drewN | apply below_drew1) | exact HB.out)) hb); clear HB; have HO218 := n0_; have HB := n1_; clear n0_ n1_; clear hb ho3; obtain ⟨Ao4, co4, eo4⟩ := Kd.R_slice HO218.out; subst eo4))
    go_loopg [12] k (fun kq v12 w' => ∃ (x1_1 : List Int) (x12_1 : Int), v12 = .int .i64 x12_1 ∧ Aside0 (foliotlaw04_LexLong.l0 kq x1_1 (y216.length : Int) x12_1 = some r) ∧ Aside0 (kq ≤ k) ∧ Aside0 (Kd.R (Kd.int .u8) 5 w' w.heap.size (fun _ => True) (.slice Ao4 y216.length co4) x1_1) ∧ Aside0 (Below w.heap.size w w'))
    case atStart => exact ⟨(y216), (0), (by first | rfl | (simp; done) | (simp [*]; done)), H', ⟨Nat.le_refl _⟩, ⟨by (with_reducible repeat (first | apply Kd.R_alloc | apply Kd.R_drewN | apply Kd.R_drew)); exact HO218.out⟩, ⟨by repeat (first | (with_reducible first | exact HB.out | apply below_alloc | apply pw_below_drewN | apply below_drew1) | exact HB.out)⟩⟩
    case round =>
      clear H'
      try clear c1
      try clear c1b0
      try clear c1b1
      try clear p2
      obtain ⟨x1_1, x12_1, rfl, HA, HK1, HO_1, HB⟩ := hrel
      have hl1_1 := (Kd.R_reads' HO_1.out).1
      rw [hl1_1] at HO_1
      (try simp only [hl1_1])
      cases gk with
      | zero => exact absurd HA.out (by simp [foliotlaw04_LexLong.l0])
      | succ k1 =>
        have H := HA.out
        clear HA
        simp only [foliotlaw04_LexLong.l0] at H
        by_cases c5 : x12_1 < (y216.length : Int)
        · rw [if_pos c5] at H
          have c5b0 : decide (x12_1 < (y216.length : Int)) = true := decide_eq_true c5
          have c5b0h : decide (x12_1 < (x1_1.length : Int)) = true := by rw [← hl1_1]; exact c5b0
          clear c5
          by_cases c6 : 0 ≤ x12_1
          · rw [if_pos c6] at H
            have c6b0 : decide (0 ≤ x12_1) = true := decide_eq_true c6
            clear c6
            by_cases c7 : x12_1 < (x1_1.length : Int)
            · rw [if_pos c7] at H
              have c7b0 : decide (x12_1 < (x1_1.length : Int)) = true := decide_eq_true c7
              clear c7
              obtain ⟨y219, hy219⟩ : ∃ y_ : List Int, y_ = (x1_1.set (x12_1 : Int).toNat 32) := ⟨_, rfl⟩
              replace H : (foliotlaw04_LexLong.l0 k1 y219 (y216.length : Int) (wrap64 (x12_1 + 1))) = some r := by first | (rw [hy219]; with_reducible exact H) | (have H2_ := (Option.bind_some _ _).symm.trans H; rw [hy219]; with_reducible exact H2_) | (have H2_ := (Option.bind_some _ _).symm.trans H; with_reducible exact H2_) | with_reducible exact H | (rw [hy219]; exact H) | exact H
              have Ny219 := Aside0.mk hy219
              clear hy219
              have H' := Aside0.mk H
              clear H
              have p8 : 0 ≤ (x12_1 : Int) := of_decide_eq_true (by first | (with_reducible assumption) | assumption)
              have q8 : (x12_1 : Int) < ((x1_1.length : Int) : Int) := of_decide_eq_true (by first | (with_reducible assumption) | assumption)
              obtain ⟨go8, co8, eo8, gb8, gl8, cl8, HG8⟩ := Kd.R_form HO_1.out (by omega)
              (first | cases eo8 | (injection eo8 with ea_ en_ ec_; (first | subst ea_ | (injection ea_ with ea_; subst ea_)); subst ec_; clear en_))
              have GB8 := Aside0.mk gb8
              have GG8 := Aside0.mk HG8
              clear gb8 gl8 HG8
              obtain ⟨hx8_0, hf8_0⟩ := Kd.R_celln 0 HO_1.out (x12_1 : Int) p8 q8
              replace p8 := eq_true p8
              replace q8 := eq_true q8
              have HP9 := Kd.R_putg HO_1.out (x12_1 : Int) 32
              go_wp2_with (first | ((with_reducible refine gate_store (t := 5) (p := 17) rfl ?_); refine store_event (t := 5) (p := 17) (v := ?vo_w10) (w1 := (wr.setCell ⟨go8, (x12_1 : Int).toNat, none⟩ (.int .u8 32))) ?hg ?ho ?hn ?hr ?_; (case ho => rfl); (case hg => rfl); (case hn => rfl); (case hr => first | (go_simp; done) | (go_simp; rfl)); intro w10 hw; have hg : wr.grownBy w10 (some go8) := (by rw [hw]; exact HP9.2); have hp_ : Kd.R (Kd.int .u8) 5 w10 w.heap.size (fun _ => True) (.slice (some ⟨go8, 0, none⟩) x1_1.length co4) y219 := (by rw [hw, Ny219.out]; exact HP9.1); clear HP9; have n0_ := Aside0.mk (hp_); have n1_ := Aside0.mk ((by rw [hw]; exact below_set (HB.out) GB8.out : Below w.heap.size w w10)); clear HO_1; clear HB; have HO_1 := n0_; have HB := n1_; clear n0_ n1_; clear hg hw hp_))
              (try simp only [← hl1_1])
              go_roundg k1
              case measure => have := HK1.out; omega
              case rel => exact ⟨(y219), (wrap64 (x12_1 + 1)), (by first | rfl | (simp; done) | (simp [*]; done)), H', ⟨by have := HK1.out; omega⟩, ⟨by (try simp only [hl1_1]); (with_reducible repeat (first | apply Kd.R_alloc | apply Kd.R_drewN | apply Kd.R_drew)); exact HO_1.out⟩, ⟨by repeat (first | (with_reducible first | exact HB.out | apply below_alloc | apply pw_below_drewN | apply below_drew1) | exact HB.out)⟩⟩
            · rw [if_neg c7] at H
              exact absurd H (by simp)
          · rw [if_neg c6] at H
            exact absurd H (by simp)
        · rw [if_neg c5] at H
          have c5b0 : decide (x12_1 < (y216.length : Int)) = false := decide_eq_false c5
          have c5b0h : decide (x12_1 < (x1_1.length : Int)) = false := by rw [← hl1_1]; exact c5b0
          clear c5
          by_cases c11 : 0 < (x1_1.length : Int)
          · rw [if_pos c11] at H
            have c11b0 : decide (0 < (x1_1.length : Int)) = true := decide_eq_true c11
            have c11b1 : decide (0 < x1_1.length) = true := decide_eq_true (by omega)
            clear c11
            obtain ⟨y220, hy220⟩ : ∃ y_ : List Int, y_ = (x1_1.set (0 : Int).toNat 120) := ⟨_, rfl⟩
            replace H : ((lex_Tokens.f k1 y220).bind fun bt221 => (if y220.length < 140737488355328 then ((lex_Tokens.f k1 (y220 ++ [32])).bind fun bt229 => (if bt221.2.1 = 0 then (if (bt221.1.length : Int) = 2 then (if 1 < (bt221.1.length : Int) then (if ((rd_T31 bt221.1 1).f2) = 65536 then (if bt229.2.1 = 2 then (if bt229.2.2 = 65536 then ((foliotlaw04_awake.f k1).bind fun t235 => (some t235)) else (none)) else (none)) else (none)) else (none)) else (none)) else (none))) else (none))) = some r := by first | (rw [hy220]; with_reducible exact H) | (have H2_ := (Option.bind_some _ _).symm.trans H; rw [hy220]; with_reducible exact H2_) | (have H2_ := (Option.bind_some _ _).symm.trans H; with_reducible exact H2_) | with_reducible exact H | (rw [hy220]; exact H) | exact H
            have Ny220 := Aside0.mk hy220
            clear hy220
            replace H := Option.bind_eq_some_iff.mp H
            obtain ⟨⟨t221, t222, t223⟩, A130, H⟩ := H
            replace H : (if y220.length < 140737488355328 then ((lex_Tokens.f k1 (y220 ++ [32])).bind fun bt229 => (if t222 = 0 then (if (t221.length : Int) = 2 then (if 1 < (t221.length : Int) then (if ((rd_T31 t221 1).f2) = 65536 then (if bt229.2.1 = 2 then (if bt229.2.2 = 65536 then ((foliotlaw04_awake.f k1).bind fun t235 => (some t235)) else (none)) else (none)) else (none)) else (none)) else (none)) else (none))) else (none)) = some r := H
            have A13 := Aside0.mk A130
            clear A130
            by_cases c14 : y220.length < 140737488355328
            · rw [if_pos c14] at H
              have LMc14 := Aside0.mk c14
              clear c14
              obtain ⟨y226, hy226⟩ : ∃ y_ : List Int, y_ = (y220 ++ [32]) := ⟨_, rfl⟩
              replace H : ((lex_Tokens.f k1 y226).bind fun bt229 => (if t222 = 0 then (if (t221.length : Int) = 2 then (if 1 < (t221.length : Int) then (if ((rd_T31 t221 1).f2) = 65536 then (if bt229.2.1 = 2 then (if bt229.2.2 = 65536 then ((foliotlaw04_awake.f k1).bind fun t235 => (some t235)) else (none)) else (none)) else (none)) else (none)) else (none)) else (none))) = some r := by first | (rw [hy226]; with_reducible exact H) | (have H2_ := (Option.bind_some _ _).symm.trans H; rw [hy226]; with_reducible exact H2_) | (have H2_ := (Option.bind_some _ _).symm.trans H; with_reducible exact H2_) | with_reducible exact H | (rw [hy226]; exact H) | exact H
              have Ny226 := Aside0.mk hy226
              clear hy226
              replace H := Option.bind_eq_some_iff.mp H
              obtain ⟨⟨t229, t230, t231⟩, A150, H⟩ := H
              replace H : (if t222 = 0 then (if (t221.length : Int) = 2 then (if 1 < (t221.length : Int) then (if ((rd_T31 t221 1).f2) = 65536 then (if t230 = 2 then (if t231 = 65536 then ((foliotlaw04_awake.f k1).bind fun t235 => (some t235)) else (none)) else (none)) else (none)) else (none)) else (none)) else (none)) = some r := H
              have A15 := Aside0.mk A150
              clear A150
              by_cases c16 : t222 = 0
              · rw [if_pos c16] at H
                have c16b0 : (t222 == 0) = true := beq_iff_eq.mpr c16
                have c16b1 : (t222 != 0) = false := bne_eq_false_iff_eq.mpr c16
                clear c16
                by_cases c17 : (t221.length : Int) = 2
                · rw [if_pos c17] at H
                  have c17b0 : ((t221.length : Int) == 2) = true := beq_iff_eq.mpr c17
                  have c17b1 : ((t221.length : Int) != 2) = false := bne_eq_false_iff_eq.mpr c17
                  clear c17
                  by_cases c18 : 1 < (t221.length : Int)
                  · rw [if_pos c18] at H
                    have c18b0 : decide (1 < (t221.length : Int)) = true := decide_eq_true c18
                    have c18b1 : decide (1 < t221.length) = true := decide_eq_true (by omega)
                    clear c18
                    by_cases c19 : ((rd_T31 t221 1).f2) = 65536
                    · rw [if_pos c19] at H
                      have c19b0 : (((rd_T31 t221 1).f2) == 65536) = true := beq_iff_eq.mpr c19
                      have c19b1 : (((rd_T31 t221 1).f2) != 65536) = false := bne_eq_false_iff_eq.mpr c19
                      clear c19
                      by_cases c20 : t230 = 2
                      · rw [if_pos c20] at H
                        have c20b0 : (t230 == 2) = true := beq_iff_eq.mpr c20
                        have c20b1 : (t230 != 2) = false := bne_eq_false_iff_eq.mpr c20
                        clear c20
                        by_cases c21 : t231 = 65536
                        · rw [if_pos c21] at H
                          have c21b0 : (t231 == 65536) = true := beq_iff_eq.mpr c21
                          have c21b1 : (t231 != 65536) = false := bne_eq_false_iff_eq.mpr c21
                          clear c21
                          replace H := Option.bind_eq_some_iff.mp H
                          obtain ⟨t235, A220, H⟩ := H
                          replace H : (some t235) = some r := H
                          have A22 := Aside0.mk A220
                          clear A220
                          obtain rfl := Option.some.inj H
                          have p12 : 0 ≤ (0 : Int) := (by omega)
                          have q12 : (0 : Int) < ((x1_1.length : Int) : Int) := of_decide_eq_true (by first | (with_reducible assumption) | assumption)
                          have qi12 : (0 < x1_1.length) = True := eq_true (by omega)
                          obtain ⟨go12, co12, eo12, gb12, gl12, cl12, HG12⟩ := Kd.R_form HO_1.out (by omega)
                          (first | cases eo12 | (injection eo12 with ea_ en_ ec_; (first | subst ea_ | (injection ea_ with ea_; subst ea_)); subst ec_; clear en_))
                          have GB12 := Aside0.mk gb12
                          have GG12 := Aside0.mk HG12
                          clear gb12 gl12 HG12
                          obtain ⟨hx12_0, hf12_0⟩ := Kd.R_celln 0 HO_1.out (0 : Int) p12 q12
                          (try rw [show ((0 : Int)).toNat = 0 from rfl] at hx12_0)
                          (try simp only [Nat.reduceMul, Nat.zero_mul, Nat.zero_add, Nat.reduceAdd] at hx12_0)
                          (try rw [show ((0 : Int)).toNat = 0 from rfl] at hf12_0)
                          (try simp only [Nat.reduceMul, Nat.zero_mul, Nat.zero_add, Nat.reduceAdd] at hf12_0)
                          replace p12 := eq_true p12
                          replace q12 := eq_true q12
                          have HP23 := Kd.R_putg HO_1.out (0 : Int) 120
                          go_wp2_with (first | ((with_reducible refine gate_store (t := 5) (p := 20) rfl ?_); refine store_event (t := 5) (p := 20) (v := ?vo_w24) (w1 := (wr.setCell ⟨go12, (0 : Int).toNat, none⟩ (.int .u8 120))) ?hg ?ho ?hn ?hr ?_; (case ho => rfl); (case hg => rfl); (case hn => rfl); (case hr => first | (go_simp; done) | (go_simp; rfl)); intro w24 hw; have hg : wr.grownBy w24 (some go12) := (by rw [hw]; exact HP23.2); have hp_ : Kd.R (Kd.int .u8) 5 w24 w.heap.size (fun _ => True) (.slice (some ⟨go12, 0, none⟩) x1_1.length co4) y220 := (by rw [hw, Ny220.out]; exact HP23.1); clear HP23; have n0_ := Aside0.mk (hp_); have n1_ := Aside0.mk ((by rw [hw]; exact below_set (HB.out) GB12.out : Below w.heap.size w w24)); clear HO_1; clear HB; have HO_1 := n0_; have HB := n1_; clear n0_ n1_; clear hg hw hp_) | ((with_reducible refine gate_callee (f := 9) rfl ?_); refine goesL_ (some 23) rfl rfl Try.func9 (by kernel_rfl) rfl #[.slice (some ⟨go12, 0, none⟩) y220.length co4] rfl (by (try simp only [List.map_toArray, List.map_cons, List.map_nil]); first | done | (rw [show y220.length = x1_1.length from (Kd.R_reads' HO_1.out).1.symm] <;> rfl) | rfl | (simp only [List.length_drop, List.length_take]; rfl)) ?_; (with_reducible refine (lex_Tokens.calls k1 _ _ y220 t221 t222 t223 _ ?side1 ?side2 A13.out).mono ?_); (case side1 => repeat (first | exact (Kd.R_reads' HO_1.out).2.2 | (with_reducible refine Kd.C_alloc ?_ _) | (with_reducible refine Kd.C_drewN ?_ _) | (with_reducible refine Kd.C_drew ?_))); (case side2 => rw [show y220.length = x1_1.length from (Kd.R_reads' HO_1.out).1.symm]; exact (Kd.R_reads' HO_1.out).2.1); rintro e w25 ⟨v224, rfl, ho0, hb⟩; refine ⟨_, rfl, ?_⟩; have n0_ := Aside0.mk (Kd.R_below (by (with_reducible repeat (first | apply Kd.R_alloc | apply Kd.R_drewN | apply Kd.R_drew)); exact HO_1.out) hb); have n1_ := Aside0.mk (Kd.R_lower ho0 (below_size (by repeat (first | (with_reducible first | exact HB.out | apply below_alloc | apply pw_below_drewN | apply below_drew1) | exact HB.out)))); have n2_ := Aside0.mk (below_step (by repeat (first | (with_reducible first | exact HB.out | apply below_alloc | apply pw_below_drewN | apply below_drew1) | exact HB.out)) hb); clear HO_1; clear HB; have HO_1 := n0_; have HO225 := n1_; have HB := n2_; clear n0_ n1_ n2_; (try clear hb); (try clear hb2); (try clear hk); (try clear hi); (try clear ho0)) | ((with_reducible refine gate_builtin (b := .append) (xs := #[.tmp 28, .tmp 29]) rfl ?_); (try (refine gate_guard (by rfl) ?_; dsimp only)); at_builtin; refine Kd.R_append (Kd.int .u8) (w0 := w) w.heap.size rfl (.tmp 28) (.tmp 29) 22 5 (.int .u8 0) 1 rfl Try.underlying22 info5 rfl (by decide) (by omega) (.slice (some ⟨go12, 0, none⟩) x1_1.length co4) y220 32 [.int .u8 32] (fun _ => True) (fun _ => False) rfl rfl ?aP (fun _ hk => hk.elim) ?aF ?aO ?aB ?aS ?aL ?_; (case aP => exact rfl); (case aB => exact (by repeat (first | (with_reducible first | exact HB.out | apply below_alloc | apply pw_below_drewN | apply below_drew1) | exact HB.out))); (case aF => exact (fun _ _ => trivial)); (case aO => exact (by (with_reducible repeat (first | apply Kd.R_alloc | apply Kd.R_drewN | apply Kd.R_drew)); exact HO_1.out)); (case aS => exact (below_size (by repeat (first | (with_reducible first | exact HB.out | apply below_alloc | apply pw_below_drewN | apply below_drew1) | exact HB.out)))); (case aL => have := LMc14.out; omega); intro v227 w26 ho hb hg hat; rw [← Ny226.out] at ho; have n0_ := Aside0.mk (Kd.R_over' (by (with_reducible repeat (first | apply Kd.R_alloc | apply Kd.R_drewN | apply Kd.R_drew)); exact HO225.out) (Kd.R_typed (by (with_reducible repeat (first | apply Kd.R_alloc | apply Kd.R_drewN | apply Kd.R_drew)); exact HO_1.out)) (by decide) hg); have n1_ := Aside0.mk (hb); have n2_ := Aside0.mk (ho); clear HO225; clear HB; clear HO_1; have HO225 := n0_; have HB := n1_; have HO228 := n2_; clear n0_ n1_ n2_; clear ho hb hg hat; obtain ⟨Ao27, co27, eo27⟩ := Kd.R_slice HO228.out; subst eo27) | ((with_reducible refine gate_callee (f := 9) rfl ?_); refine goesL_ (some 31) rfl rfl Try.func9 (by kernel_rfl) rfl #[.slice Ao27 y226.length co27] rfl (by (try simp only [List.map_toArray, List.map_cons, List.map_nil]); first | done | rfl | (simp only [List.length_drop, List.length_take]; rfl)) ?_; (with_reducible refine (lex_Tokens.calls k1 _ _ y226 t229 t230 t231 _ ?side1 ?side2 A15.out).mono ?_); (case side1 => repeat (first | exact (Kd.R_reads' HO228.out).2.2 | (with_reducible refine Kd.C_alloc ?_ _) | (with_reducible refine Kd.C_drewN ?_ _) | (with_reducible refine Kd.C_drew ?_))); (case side2 => exact (Kd.R_reads' HO228.out).2.1); rintro e w28 ⟨v232, rfl, ho0, hb⟩; refine ⟨_, rfl, ?_⟩; have n0_ := Aside0.mk (Kd.R_elder' (by (with_reducible repeat (first | apply Kd.R_alloc | apply Kd.R_drewN | apply Kd.R_drew)); exact HO225.out) (Kd.R_base ho0) hb); have n1_ := Aside0.mk (Kd.R_below (by (with_reducible repeat (first | apply Kd.R_alloc | apply Kd.R_drewN | apply Kd.R_drew)); exact HO228.out) hb); have n2_ := Aside0.mk (Kd.R_lower (Kd.R_new' ho0 (Kd.R_lt (by (with_reducible repeat (first | apply Kd.R_alloc | apply Kd.R_drewN | apply Kd.R_drew)); exact HO225.out))) (below_size (by repeat (first | (with_reducible first | exact HB.out | apply below_alloc | apply pw_below_drewN | apply below_drew1) | exact HB.out)))); have n3_ := Aside0.mk (below_step (by repeat (first | (with_reducible first | exact HB.out | apply below_alloc | apply pw_below_drewN | apply below_drew1) | exact HB.out)) hb); clear HO225; clear HO228; clear HB; have HO225 := n0_; have HO228 := n1_; have HO233 := n2_; have HB := n3_; clear n0_ n1_ n2_ n3_; (try clear hb); (try clear hb2); (try clear hk); (try clear hi); (try clear ho0); obtain ⟨Ao29, co29, eo29⟩ := Kd.R_slice HO225.out; subst eo29; have p234 : 0 ≤ (1 : Int) := (by omega); have q234 : 1 < (t221.length : Int) := of_decide_eq_true (by first | (with_reducible assumption) | assumption); obtain ⟨ad234, e234, hx234_0, hx234_1, hx234_2⟩ := at_T31 (Kd.R_reads' HO225.out).2.2 1 p234 q234; cases e234; (try simp only [show (1 : Int).toNat = 1 from rfl, Nat.reduceMul, Nat.reduceEqDiff, Go.Addr.add, ↓reduceIte] at hx234_0); (try simp only [show (1 : Int).toNat = 1 from rfl, Nat.reduceMul, Nat.reduceEqDiff, Go.Addr.add, ↓reduceIte] at hx234_1); (try simp only [show (1 : Int).toNat = 1 from rfl, Nat.reduceMul, Nat.reduceEqDiff, Go.Addr.add, ↓reduceIte] at hx234_2); have qi234 : (1 < t221.length) = True := eq_true (by omega); (try rw [show ((1 : Int)).toNat = 1 from rfl] at hx234_0); (try rw [show 1 * 3 = 3 from rfl] at hx234_0); (try rw [show ((1 : Int)).toNat = 1 from rfl] at hx234_1); (try rw [show 1 * 3 = 3 from rfl] at hx234_1); (try rw [show ((1 : Int)).toNat = 1 from rfl] at hx234_2); (try rw [show 1 * 3 = 3 from rfl] at hx234_2); replace p234 := eq_true p234; replace q234 := eq_true q234) | (go_at_call 12; (with_reducible refine (foliotlaw04_awake.calls k1  t235 _ A22.out).mono ?_); rintro e w30 ⟨rfl, hb⟩; have n0_ := Aside0.mk (Kd.R_below (by (with_reducible repeat (first | apply Kd.R_alloc | apply Kd.R_drewN | apply Kd.R_drew)); exact HO225.out) hb); have n1_ := Aside0.mk (Kd.R_below (by (with_reducible repeat (first | apply Kd.R_alloc | apply Kd.R_drewN | apply Kd.R_drew)); exact HO228.out) hb); have n2_ := Aside0.mk (Kd.R_below (by (with_reducible repeat (first | apply Kd.R_alloc | apply Kd.R_drewN | apply Kd.R_drew)); exact HO233.out) hb); have n3_ := Aside0.mk (below_step (by repeat (first | (with_reducible first | exact HB.out | apply below_alloc | apply pw_below_drewN | apply below_drew1) | exact HB.out)) hb); clear HO225; clear HO228; clear HO233; clear HB; have HO225 := n0_; have HO228 := n1_; have HO233 := n2_; have HB := n3_; clear n0_ n1_ n2_ n3_; (try clear hb); (try clear hb2); (try clear hk); (try clear hi)))
                          go_ret
                          exact ⟨by first | rfl | (simp [errW_none, errW_some] <;> rfl) | (simp [*, errW_none, errW_some] <;> rfl), by repeat (first | (with_reducible first | exact HB.out | apply below_alloc | apply pw_below_drewN | apply below_drew1) | exact HB.out)⟩
                        · rw [if_neg c21] at H
                          exact absurd H (by simp)
                      · rw [if_neg c20] at H
                        exact absurd H (by simp)
                    · rw [if_neg c19] at H
                      exact absurd H (by simp)
                  · rw [if_neg c18] at H
                    exact absurd H (by simp)
                · rw [if_neg c17] at H
                  exact absurd H (by simp)
              · rw [if_neg c16] at H
                exact absurd H (by simp)
            · rw [if_neg c14] at H
              exact absurd H (by simp)
          · rw [if_neg c11] at H
            exact absurd H (by simp)
  · rw [if_neg c1] at H
    exact absurd H (by simp)

/-- THE ONE PURE STATEMENT of foliotlaw04_LexLong: yours. -/
def foliotlaw04_LexLong.Pure : Prop := ∃ k, foliotlaw04_LexLong.f k  = some true
theorem foliotlaw04_LexLong.walk (P : foliotlaw04_LexLong.Pure)  (w : World)  :
    Calls Try.prog 5 #[] w fun e w' => e = .returned (.bool true) ∧ Below w.heap.size w w' := by
  obtain ⟨k, h⟩ := P  
  refine (foliotlaw04_LexLong.calls k  true w h).mono ?_
  rintro e w' ⟨rfl, hd⟩
  exact ⟨rfl, hd⟩

end Go.Proofs.Ytnnjanhibomijaa.A
