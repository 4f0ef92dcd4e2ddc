import Derived.Test.YtaclkccgjpjdjaaQgjcfoaocjeIx0
import Derived.Test.YtaclkccgjpjdjaaQmdcjgnibilIx1
import Derived.Test.YtaclkccgjpjdjaaQbinlnhbjpbIx3
import Derived.Test.YtaclkccgjpjdjaaQljhkfopepdM
namespace Go.Proofs.Ytaclkccgjpjdjaa.I
open Go.RowKit Go.Proofs.YtaclkccgjpjdjaaW.PrintWords Go.Proofs.YtaclkccgjpjdjaaW.PrintLast Go.Proofs.YtaclkccgjpjdjaaW.PrintMore
attribute [local go_sem] max2_int min2_int max_two min_two max_three min_three max_four min_four   -- for this text's walks alone
set_option linter.unusedVariables false
set_option linter.unusedSimpArgs false
def integer_Small.l0 : Nat → Int → List Int → Int → Int → Bool → List Int → Option (Int × Bool)
 | 0, _, _, _, _, _, _ => none
 | k + 1, x4, x11, x12, x13, x572000, x572001 => if x13 < x12 then (if 0 ≤ x13 then (if x13 < (x11.length : Int) then (if x13 < 2 then (if 0 ≤ (wrap64 (32 * x13)) then (integer_Small.l0 k (Go.bits .or .u64 x4 (shl .u64 (IntKind.u64.wrap (rd x11 x13)) (wrap64 (32 * x13)))) x11 x12 (wrap64 (x13 + 1)) x572000 x572001) else (none)) else (integer_Small.l0 k x4 x11 x12 (wrap64 (x13 + 1)) x572000 x572001)) else (none)) else (none)) else (if x572000 = true then (if (x572001.length : Int) > 2 then (some (0, false)) else (if (wrap64 (-(wrap64 (x4)))) = 0 then (if x4 = 0 then (some (wrap64 (-(wrap64 (x4))), true)) else (some (0, false))) else (if ((decide ((wrap64 (-(wrap64 (x4)))) < 0)) != x572000) = true then (some (0, false)) else (some (wrap64 (-(wrap64 (x4))), true))))) else (if (x572001.length : Int) > 2 then (some (0, false)) else (if (wrap64 (x4)) = 0 then (if x4 = 0 then (some (wrap64 (x4), true)) else (some (0, false))) else (if ((decide ((wrap64 (x4)) < 0)) != x572000) = true then (some (0, false)) else (some (wrap64 (x4), true))))))
def integer_Small.f (k : Nat) (a0_0 : Bool) (l0_1 : List Int) : Option (Int × Bool) := (integer_Norm.f a0_0 l0_1).bind fun bt572 => (integer_Small.l0 k 0 bt572.2 (bt572.2.length : Int) 0 bt572.1 bt572.2)
set_option maxHeartbeats 8000000 in
set_option maxRecDepth 100000 in
theorem integer_Small.calls (k : Nat) (a0_0 : Bool) (A0_1 : Option Addr) (c0_1 : Nat) (l0_1 : List Int) (r1 : Int) (r2 : Bool) (w : World) (hr0_1 : Kd.C (Kd.int .u32) w A0_1 l0_1.length l0_1) (hc0_1 : l0_1.length ≤ c0_1) (h : integer_Small.f k a0_0 l0_1 = some (r1, r2)) :
  Calls Try.prog 68 #[.agg #[.bool a0_0, .slice A0_1 l0_1.length c0_1]] w fun e w' => e = .returned (.tuple #[.int .i64 r1, .bool r2]) ∧ Below w.heap.size w w' := by
 have hu39 := Try.underlying39
 have HR0_1 := Aside0.mk hr0_1
 have HC0_1 := Aside0.mk hc0_1
 clear hr0_1 hc0_1
 have HB := Aside0.mk (Below.refl w.heap.size w)
 have H : ((integer_Norm.f a0_0 l0_1).bind fun bt572 => (integer_Small.l0 k 0 bt572.2 (bt572.2.length : Int) 0 bt572.1 bt572.2)) = some (r1, r2) := h
 clear h
 replace H := Sq.bd H
 obtain ⟨⟨t572, t573⟩, A2, H⟩ := H
 (try dsimp -simprocs only at H)
 have H' := Aside0.mk H
 clear H
 go_enter Try.func68, Try.ntmps68
 go_wp2_with (first | ((with_reducible refine gate_dst (N := 1) rfl ?_); refine box_event ?hg (N := 1) ?hd (cs := #[.bool a0_0, .slice A0_1 l0_1.length c0_1]) (t := 39) ?hr ?_; (case hd => rfl); (case hg => rfl); (case hr => first | (go_simp; done) | (go_simp; rfl)); intro gb571 hg w3 hbox hb; have BK571 := Aside0.mk (hbox); have GW571 := Sq.gw HB hg; have GE571 := Sq.gw HB hg; replace HB := Sq.bs HB hb; clear hb hbox hg; have hcz4_0 := Sq.bc BK571 0 (.bool a0_0); have hcz4_1 := Sq.bc BK571 1 (.slice A0_1 l0_1.length c0_1); have hfz4_0 := blk_frozen BK571.out 0; have hfz4_1 := blk_frozen BK571.out 1) | ((with_reducible refine gate_callee (f := 62) rfl ?_); refine Sq.gl (some 9) Try.func62 #[.agg #[.bool a0_0, .slice A0_1 l0_1.length c0_1]] ?_; (with_reducible refine (integer_Norm.calls a0_0 _ _ l0_1 t572 t573 _ ?side1 ?side2 A2.out).mono ?_); (case side1 => exact Sq.ca (Kd.C_below HR0_1.out HB.out)); (case side2 => exact HC0_1.out); rintro e w5 ⟨v574, rfl, ho0, hb⟩; refine ⟨_, rfl, ?_⟩; have HO575 := Aside0.mk (Kd.R_lower ho0 (below_size (Sq.bl HB))); replace BK571 := Sq.bb BK571 hb; replace HB := Sq.bs HB hb; (try clear hb); (try clear hb2); (try clear hk); (try clear hi); (try clear ho0); have hcz6_0 := Sq.bc BK571 0 (.bool a0_0); have hcz6_1 := Sq.bc BK571 1 (.slice A0_1 l0_1.length c0_1); have hfz6_0 := blk_frozen BK571.out 0; have hfz6_1 := blk_frozen BK571.out 1; obtain ⟨Ao7, co7, eo7⟩ := Kd.R_slice HO575.out; subst eo7))
 go_loopg [4, 13] k (fun kq v4 v13 w' => ∃ (x4_1 : Int) (x13_1 : Int), v4 = .int .u64 x4_1 ∧ v13 = .int .i64 x13_1 ∧ Aside0 (integer_Small.l0 kq x4_1 t573 (t573.length : Int) x13_1 t572 t573 = some (r1, r2)) ∧ Aside0 (kq ≤ k) ∧ Aside0 (Kd.R (Kd.int .u32) 107 w' w.heap.size (fun _ => True) (.slice Ao7 t573.length co7) t573) ∧ Aside0 (Kd.R (Kd.int .u32) 107 w' w.heap.size (fun _ => True) (.slice Ao7 t573.length co7) t573) ∧ Aside0 (w'.heap[gb571]? = some (.cells #[.bool t572, (.slice Ao7 t573.length co7)] 39 (0, 0))) ∧ Aside0 (Below w.heap.size w w'))
 case atStart => exact ⟨(0), (0), (by first | rfl | (simp; done) | (simp [*]; done)), (by first | rfl | (simp; done) | (simp [*]; done)), H', ⟨Nat.le_refl _⟩, ⟨by (with_reducible repeat (first | apply Kd.R_alloc | apply Kd.R_drewN | apply Kd.R_drew)); exact Kd.R_mono (Kd.R_far (p := ⟨gb571, 1, none⟩) (Kd.R_far (p := ⟨gb571, 0, none⟩) (Sq.rt HO575.out BK571) (fun _ hk => hk.2) (.bool t572)) (fun _ hk => hk.2) (.slice Ao7 t573.length co7)) (fun _ hk => trivial)⟩, ⟨by (with_reducible repeat (first | apply Kd.R_alloc | apply Kd.R_drewN | apply Kd.R_drew)); exact Kd.R_mono (Kd.R_far (p := ⟨gb571, 1, none⟩) (Kd.R_far (p := ⟨gb571, 0, none⟩) (Sq.rt HO575.out BK571) (fun _ hk => hk.2) (.bool t572)) (fun _ hk => hk.2) (.slice Ao7 t573.length co7)) (fun _ hk => trivial)⟩, ⟨by (with_reducible repeat (first | refine blk_drewN ?_ _ | refine blk_drew ?_ | refine blk_alloc ?_ _)); refine blk_put (cs := #[.bool t572, .slice A0_1 l0_1.length c0_1]) ?_ 1 _ rfl; (with_reducible repeat (first | refine blk_drewN ?_ _ | refine blk_drew ?_ | refine blk_alloc ?_ _)); refine blk_put (cs := #[.bool a0_0, .slice A0_1 l0_1.length c0_1]) ?_ 0 _ rfl; (with_reducible repeat (first | refine blk_drewN ?_ _ | refine blk_drew ?_ | refine blk_alloc ?_ _)); exact BK571.out⟩, ⟨Sq.bl HB⟩⟩
 case round =>
  clear H'
  try clear p2
  try clear c6
  try clear hcz4_0
  try clear hcz4_1
  try clear hcz6_0
  try clear hcz6_1
  try clear hfz4_0
  try clear hfz4_1
  try clear hfz6_0
  try clear hfz6_1
  obtain ⟨x4_1, x13_1, rfl, rfl, HA, HK1, HO_11, HO_572001, BK571, HB⟩ := hrel
  cases gk with
  | zero => exact absurd HA.out (by simp [integer_Small.l0])
  | succ k1 =>
   have H := HA.out
   clear HA
   simp only [integer_Small.l0] at H
   by_cases c8 : x13_1 < (t573.length : Int)
   ·rw [if_pos c8] at H
    have c8b0 : decide (x13_1 < (t573.length : Int)) = true := decide_eq_true c8
    clear c8
    replace H := Sq.ifs H
    obtain ⟨c9, H⟩ := H
    have c9b0 : decide (0 ≤ x13_1) = true := decide_eq_true c9
    clear c9
    replace H := Sq.ifs H
    obtain ⟨c10, H⟩ := H
    have c10b0 : decide (x13_1 < (t573.length : Int)) = true := decide_eq_true c10
    clear c10
    by_cases c11 : x13_1 < 2
    ·rw [if_pos c11] at H
     have c11b0 : decide (x13_1 < 2) = true := decide_eq_true c11
     clear c11
     obtain ⟨ji12, hji12⟩ : ∃ j_ : Int, (wrap64 (32 * x13_1)) = j_ := ⟨_, rfl⟩
     (first | rw [hji12] at H | simp only [hji12] at H)
     have hji12w : (IntKind.i64.wrap (32 * x13_1)) = ji12 := (i64_w _).trans hji12
     replace H := Sq.ifs H
     obtain ⟨c13, H⟩ := H
     have c13b0 := eq_true c13
     have c13b1 : decide (0 ≤ (ji12)) = true := decide_eq_true c13
     clear c13
     obtain ⟨ji14, hji14⟩ : ∃ j_ : Int, (shl .u64 (IntKind.u64.wrap (rd t573 x13_1)) (ji12)) = j_ := ⟨_, rfl⟩
     (first | rw [hji14] at H | simp only [hji14] at H)
     have hji14_ : (IntKind.u64.wrap ((IntKind.u64.wrap (rd t573 x13_1)) * 2 ^ min (ji12).toNat 64)) = ji14 := hji14
     have hji14z : (ji12) ≤ 64 → (IntKind.u64.wrap ((IntKind.u64.wrap (rd t573 x13_1)) * 2 ^ (ji12).toNat)) = ji14 := shl_small hji14
     have H' := Aside0.mk H
     clear H
     have p576 : 0 ≤ (x13_1 : Int) := of_decide_eq_true (by first | (with_reducible assumption) | assumption)
     have q576 : x13_1 < (t573.length : Int) := of_decide_eq_true (by first | (with_reducible assumption) | assumption)
     obtain ⟨ad576, e576, hx576_0⟩ := Kd.at_int (Kd.R_reads' HO_11.out).2.2 x13_1 p576 q576
     cases e576
     replace p576 := eq_true p576
     replace q576 := eq_true q576
     go_wp2
     go_roundg k1
     case measure => have := HK1.out; omega
     case rel => exact ⟨(Go.bits .or .u64 x4_1 (ji14)), (wrap64 (x13_1 + 1)), (by first | rfl | (simp; done) | (simp only [← hji14] <;> (first | rfl | simp)) | (simp [*]; done)), (by first | rfl | (simp; done) | (simp [*]; done)), H', ⟨by have := HK1.out; omega⟩, ⟨by (with_reducible repeat (first | apply Kd.R_alloc | apply Kd.R_drewN | apply Kd.R_drew)); exact HO_11.out⟩, ⟨by (with_reducible repeat (first | apply Kd.R_alloc | apply Kd.R_drewN | apply Kd.R_drew)); exact HO_572001.out⟩, ⟨by (with_reducible repeat (first | refine blk_drewN ?_ _ | refine blk_drew ?_ | refine blk_alloc ?_ _)); exact BK571.out⟩, ⟨Sq.bl HB⟩⟩
    ·rw [if_neg c11] at H
     have c11b0 : decide (x13_1 < 2) = false := decide_eq_false c11
     clear c11
     have H' := Aside0.mk H
     clear H
     have p576 : 0 ≤ (x13_1 : Int) := of_decide_eq_true (by first | (with_reducible assumption) | assumption)
     have q576 : x13_1 < (t573.length : Int) := of_decide_eq_true (by first | (with_reducible assumption) | assumption)
     obtain ⟨ad576, e576, hx576_0⟩ := Kd.at_int (Kd.R_reads' HO_11.out).2.2 x13_1 p576 q576
     cases e576
     replace p576 := eq_true p576
     replace q576 := eq_true q576
     go_wp2
     go_roundg k1
     case measure => have := HK1.out; omega
     case rel => exact ⟨(x4_1), (wrap64 (x13_1 + 1)), (by first | rfl | (simp; done) | (simp [*]; done)), (by first | rfl | (simp; done) | (simp [*]; done)), H', ⟨by have := HK1.out; omega⟩, ⟨by (with_reducible repeat (first | apply Kd.R_alloc | apply Kd.R_drewN | apply Kd.R_drew)); exact HO_11.out⟩, ⟨by (with_reducible repeat (first | apply Kd.R_alloc | apply Kd.R_drewN | apply Kd.R_drew)); exact HO_572001.out⟩, ⟨by (with_reducible repeat (first | refine blk_drewN ?_ _ | refine blk_drew ?_ | refine blk_alloc ?_ _)); exact BK571.out⟩, ⟨Sq.bl HB⟩⟩
   ·rw [if_neg c8] at H
    have c8b0 : decide (x13_1 < (t573.length : Int)) = false := decide_eq_false c8
    clear c8
    by_cases c15 : t572 = true
    ·subst c15
     have H1 : (if (t573.length : Int) > 2 then (some (0, false)) else (if (wrap64 (-(wrap64 (x4_1)))) = 0 then (if x4_1 = 0 then (some (wrap64 (-(wrap64 (x4_1))), true)) else (some (0, false))) else (if ((decide ((wrap64 (-(wrap64 (x4_1)))) < 0)) != true) = true then (some (0, false)) else (some (wrap64 (-(wrap64 (x4_1))), true))))) = some (r1, r2) := by rw [if_pos rfl] at H; exact H
     clear H
     have H := H1
     clear H1
     by_cases c16 : (t573.length : Int) > 2
     ·rw [if_pos c16] at H
      have c16b0 : decide (2 < (t573.length : Int)) = true := decide_eq_true c16
      have c16b1 : decide (2 < t573.length) = true := decide_eq_true (by omega)
      clear c16
      simp only [Option.some.injEq, Prod.mk.injEq] at H
      obtain ⟨rfl, rfl⟩ := H
      have hcz17_0 := Sq.bc BK571 0 (.bool true)
      have hcz17_1 := Sq.bc BK571 1 (.slice Ao7 t573.length co7)
      have hfz17_0 := blk_frozen BK571.out 0
      have hfz17_1 := blk_frozen BK571.out 1
      go_wp2
      go_ret2
      exact ⟨by first | rfl | (simp [errW_none, errW_some] <;> rfl) | (simp [*, errW_none, errW_some] <;> rfl), Sq.bl HB⟩
     ·rw [if_neg c16] at H
      have c16b0 : decide (2 < (t573.length : Int)) = false := decide_eq_false c16
      have c16b1 : decide (2 < t573.length) = false := decide_eq_false (by omega)
      clear c16
      by_cases c18 : (wrap64 (-(wrap64 (x4_1)))) = 0
      ·rw [if_pos c18] at H
       have c18b0 : ((wrap64 (-(wrap64 (x4_1)))) == 0) = true := beq_iff_eq.mpr c18
       have c18b1 : ((wrap64 (-(wrap64 (x4_1)))) != 0) = false := bne_eq_false_iff_eq.mpr c18
       clear c18
       by_cases c19 : x4_1 = 0
       ·rw [if_pos c19] at H
        have c19b0 : (x4_1 == 0) = true := beq_iff_eq.mpr c19
        have c19b1 : (x4_1 != 0) = false := bne_eq_false_iff_eq.mpr c19
        clear c19
        simp only [Option.some.injEq, Prod.mk.injEq] at H
        obtain ⟨rfl, rfl⟩ := H
        have hcz20_0 := Sq.bc BK571 0 (.bool true)
        have hcz20_1 := Sq.bc BK571 1 (.slice Ao7 t573.length co7)
        have hfz20_0 := blk_frozen BK571.out 0
        have hfz20_1 := blk_frozen BK571.out 1
        go_wp2
        go_ret2
        exact ⟨by first | rfl | (simp [errW_none, errW_some] <;> rfl) | (simp [*, errW_none, errW_some] <;> rfl), Sq.bl HB⟩
       ·rw [if_neg c19] at H
        have c19b0 : (x4_1 == 0) = false := beq_eq_false_iff_ne.mpr c19
        have c19b1 : (x4_1 != 0) = true := bne_iff_ne.mpr c19
        simp only [Option.some.injEq, Prod.mk.injEq] at H
        obtain ⟨rfl, rfl⟩ := H
        have hcz21_0 := Sq.bc BK571 0 (.bool true)
        have hcz21_1 := Sq.bc BK571 1 (.slice Ao7 t573.length co7)
        have hfz21_0 := blk_frozen BK571.out 0
        have hfz21_1 := blk_frozen BK571.out 1
        go_wp2
        go_ret2
        exact ⟨by first | rfl | (simp [errW_none, errW_some] <;> rfl) | (simp [*, errW_none, errW_some] <;> rfl), Sq.bl HB⟩
      ·rw [if_neg c18] at H
       have c18b0 : ((wrap64 (-(wrap64 (x4_1)))) == 0) = false := beq_eq_false_iff_ne.mpr c18
       have c18b1 : ((wrap64 (-(wrap64 (x4_1)))) != 0) = true := bne_iff_ne.mpr c18
       by_cases c22 : ((decide ((wrap64 (-(wrap64 (x4_1)))) < 0)) != true) = true
       ·rw [if_pos c22] at H
        have c22b0 : ((decide ((wrap64 (-(wrap64 (x4_1)))) < 0)) != true) = true := c22
        (try (have c22b1 : decide ((decide ((wrap64 (-(wrap64 (x4_1)))) < 0)) = true) = false := by simpa using c22))
        (try (have c22b2 : ((decide ((wrap64 (-(wrap64 (x4_1)))) < 0)) == true) = false := by simpa using c22))
        (try (have c22b3 : ¬ ((decide ((wrap64 (-(wrap64 (x4_1)))) < 0)) = true) := by simpa using c22))
        clear c22
        simp only [Option.some.injEq, Prod.mk.injEq] at H
        obtain ⟨rfl, rfl⟩ := H
        have hcz23_0 := Sq.bc BK571 0 (.bool true)
        have hcz23_1 := Sq.bc BK571 1 (.slice Ao7 t573.length co7)
        have hfz23_0 := blk_frozen BK571.out 0
        have hfz23_1 := blk_frozen BK571.out 1
        go_wp2
        go_ret2
        exact ⟨by first | rfl | (simp [errW_none, errW_some] <;> rfl) | (simp [*, errW_none, errW_some] <;> rfl), Sq.bl HB⟩
       ·rw [if_neg c22] at H
        have c22b0 : ((decide ((wrap64 (-(wrap64 (x4_1)))) < 0)) != true) = false := by simpa using c22
        (try (have c22b1 : decide ((decide ((wrap64 (-(wrap64 (x4_1)))) < 0)) = true) = true := by simpa using c22))
        (try (have c22b2 : ((decide ((wrap64 (-(wrap64 (x4_1)))) < 0)) == true) = true := by simpa using c22))
        clear c22
        simp only [Option.some.injEq, Prod.mk.injEq] at H
        obtain ⟨rfl, rfl⟩ := H
        have hcz24_0 := Sq.bc BK571 0 (.bool true)
        have hcz24_1 := Sq.bc BK571 1 (.slice Ao7 t573.length co7)
        have hfz24_0 := blk_frozen BK571.out 0
        have hfz24_1 := blk_frozen BK571.out 1
        go_wp2
        go_ret2
        exact ⟨by first | rfl | (simp [errW_none, errW_some] <;> rfl) | (simp [*, errW_none, errW_some] <;> rfl), Sq.bl HB⟩
    ·replace c15 := Bool.eq_false_iff.mpr c15
     subst c15
     have H1 : (if (t573.length : Int) > 2 then (some (0, false)) else (if (wrap64 (x4_1)) = 0 then (if x4_1 = 0 then (some (wrap64 (x4_1), true)) else (some (0, false))) else (if ((decide ((wrap64 (x4_1)) < 0)) != false) = true then (some (0, false)) else (some (wrap64 (x4_1), true))))) = some (r1, r2) := by rw [if_neg (show ¬ (false = true) by decide)] at H; exact H
     clear H
     have H := H1
     clear H1
     by_cases c25 : (t573.length : Int) > 2
     ·rw [if_pos c25] at H
      have c25b0 : decide (2 < (t573.length : Int)) = true := decide_eq_true c25
      have c25b1 : decide (2 < t573.length) = true := decide_eq_true (by omega)
      clear c25
      simp only [Option.some.injEq, Prod.mk.injEq] at H
      obtain ⟨rfl, rfl⟩ := H
      have hcz26_0 := Sq.bc BK571 0 (.bool false)
      have hcz26_1 := Sq.bc BK571 1 (.slice Ao7 t573.length co7)
      have hfz26_0 := blk_frozen BK571.out 0
      have hfz26_1 := blk_frozen BK571.out 1
      go_wp2
      go_ret2
      exact ⟨by first | rfl | (simp [errW_none, errW_some] <;> rfl) | (simp [*, errW_none, errW_some] <;> rfl), Sq.bl HB⟩
     ·rw [if_neg c25] at H
      have c25b0 : decide (2 < (t573.length : Int)) = false := decide_eq_false c25
      have c25b1 : decide (2 < t573.length) = false := decide_eq_false (by omega)
      clear c25
      by_cases c27 : (wrap64 (x4_1)) = 0
      ·rw [if_pos c27] at H
       have c27b0 : ((wrap64 (x4_1)) == 0) = true := beq_iff_eq.mpr c27
       have c27b1 : ((wrap64 (x4_1)) != 0) = false := bne_eq_false_iff_eq.mpr c27
       clear c27
       by_cases c28 : x4_1 = 0
       ·rw [if_pos c28] at H
        have c28b0 : (x4_1 == 0) = true := beq_iff_eq.mpr c28
        have c28b1 : (x4_1 != 0) = false := bne_eq_false_iff_eq.mpr c28
        clear c28
        simp only [Option.some.injEq, Prod.mk.injEq] at H
        obtain ⟨rfl, rfl⟩ := H
        have hcz29_0 := Sq.bc BK571 0 (.bool false)
        have hcz29_1 := Sq.bc BK571 1 (.slice Ao7 t573.length co7)
        have hfz29_0 := blk_frozen BK571.out 0
        have hfz29_1 := blk_frozen BK571.out 1
        go_wp2
        go_ret2
        exact ⟨by first | rfl | (simp [errW_none, errW_some] <;> rfl) | (simp [*, errW_none, errW_some] <;> rfl), Sq.bl HB⟩
       ·rw [if_neg c28] at H
        have c28b0 : (x4_1 == 0) = false := beq_eq_false_iff_ne.mpr c28
        have c28b1 : (x4_1 != 0) = true := bne_iff_ne.mpr c28
        simp only [Option.some.injEq, Prod.mk.injEq] at H
        obtain ⟨rfl, rfl⟩ := H
        have hcz30_0 := Sq.bc BK571 0 (.bool false)
        have hcz30_1 := Sq.bc BK571 1 (.slice Ao7 t573.length co7)
        have hfz30_0 := blk_frozen BK571.out 0
        have hfz30_1 := blk_frozen BK571.out 1
        go_wp2
        go_ret2
        exact ⟨by first | rfl | (simp [errW_none, errW_some] <;> rfl) | (simp [*, errW_none, errW_some] <;> rfl), Sq.bl HB⟩
      ·rw [if_neg c27] at H
       have c27b0 : ((wrap64 (x4_1)) == 0) = false := beq_eq_false_iff_ne.mpr c27
       have c27b1 : ((wrap64 (x4_1)) != 0) = true := bne_iff_ne.mpr c27
       by_cases c31 : ((decide ((wrap64 (x4_1)) < 0)) != false) = true
       ·rw [if_pos c31] at H
        have c31b0 : ((decide ((wrap64 (x4_1)) < 0)) != false) = true := c31
        (try (have c31b1 : decide ((decide ((wrap64 (x4_1)) < 0)) = false) = false := by simpa using c31))
        (try (have c31b2 : ((decide ((wrap64 (x4_1)) < 0)) == false) = false := by simpa using c31))
        (try (have c31b3 : ¬ ((decide ((wrap64 (x4_1)) < 0)) = false) := by simpa using c31))
        clear c31
        simp only [Option.some.injEq, Prod.mk.injEq] at H
        obtain ⟨rfl, rfl⟩ := H
        have hcz32_0 := Sq.bc BK571 0 (.bool false)
        have hcz32_1 := Sq.bc BK571 1 (.slice Ao7 t573.length co7)
        have hfz32_0 := blk_frozen BK571.out 0
        have hfz32_1 := blk_frozen BK571.out 1
        go_wp2
        go_ret2
        exact ⟨by first | rfl | (simp [errW_none, errW_some] <;> rfl) | (simp [*, errW_none, errW_some] <;> rfl), Sq.bl HB⟩
       ·rw [if_neg c31] at H
        have c31b0 : ((decide ((wrap64 (x4_1)) < 0)) != false) = false := by simpa using c31
        (try (have c31b1 : decide ((decide ((wrap64 (x4_1)) < 0)) = false) = true := by simpa using c31))
        (try (have c31b2 : ((decide ((wrap64 (x4_1)) < 0)) == false) = true := by simpa using c31))
        clear c31
        simp only [Option.some.injEq, Prod.mk.injEq] at H
        obtain ⟨rfl, rfl⟩ := H
        have hcz33_0 := Sq.bc BK571 0 (.bool false)
        have hcz33_1 := Sq.bc BK571 1 (.slice Ao7 t573.length co7)
        have hfz33_0 := blk_frozen BK571.out 0
        have hfz33_1 := blk_frozen BK571.out 1
        go_wp2
        go_ret2
        exact ⟨by first | rfl | (simp [errW_none, errW_some] <;> rfl) | (simp [*, errW_none, errW_some] <;> rfl), Sq.bl HB⟩
def foliotref02_Small.l0 : Nat → Int → Int → Bool → List Int → Option (Int × Bool)
 | 0, _, _, _, _ => none
 | k + 1, x4, x5, x578000, x578001 => if x5 ≥ 0 then (if 0 ≤ x5 then (if x5 < (x578001.length : Int) then (foliotref02_Small.l0 k (Go.bits .or .u64 (IntKind.u64.wrap (x4 * 4294967296)) (IntKind.u64.wrap (rd x578001 x5))) (wrap64 (x5 - 1)) x578000 x578001) else (none)) else (none)) else (if x578000 = true then (some (wrap64 (IntKind.u64.wrap (-x4)), decide (x4 ≤ 9223372036854775808))) else (if x4 ≥ 9223372036854775808 then (some (0, false)) else (some (wrap64 (x4), true))))
def foliotref02_Small.f (k : Nat) (a0_0 : Bool) (l0_1 : List Int) : Option (Int × Bool) := (foliotref02_Norm.f a0_0 l0_1).bind fun bt578 => (if (bt578.2.length : Int) > 2 then (some (0, false)) else (foliotref02_Small.l0 k 0 (wrap64 ((bt578.2.length : Int) - 1)) bt578.1 bt578.2))
set_option maxHeartbeats 8000000 in
set_option maxRecDepth 100000 in
theorem foliotref02_Small.calls (k : Nat) (a0_0 : Bool) (A0_1 : Option Addr) (c0_1 : Nat) (l0_1 : List Int) (r1 : Int) (r2 : Bool) (w : World) (hr0_1 : Kd.C (Kd.int .u32) w A0_1 l0_1.length l0_1) (hc0_1 : l0_1.length ≤ c0_1) (h : foliotref02_Small.f k a0_0 l0_1 = some (r1, r2)) :
  Calls Try.prog 69 #[.agg #[.bool a0_0, .slice A0_1 l0_1.length c0_1]] w fun e w' => e = .returned (.tuple #[.int .i64 r1, .bool r2]) ∧ Below w.heap.size w w' := by
 have hu39 := Try.underlying39
 have HR0_1 := Aside0.mk hr0_1
 have HC0_1 := Aside0.mk hc0_1
 clear hr0_1 hc0_1
 have HB := Aside0.mk (Below.refl w.heap.size w)
 have H : ((foliotref02_Norm.f a0_0 l0_1).bind fun bt578 => (if (bt578.2.length : Int) > 2 then (some (0, false)) else (foliotref02_Small.l0 k 0 (wrap64 ((bt578.2.length : Int) - 1)) bt578.1 bt578.2))) = some (r1, r2) := h
 clear h
 replace H := Sq.bd H
 obtain ⟨⟨t578, t579⟩, A2, H⟩ := H
 (try dsimp -simprocs only at H)
 by_cases c3 : (t579.length : Int) > 2
 ·rw [if_pos c3] at H
  have c3b0 : decide (2 < (t579.length : Int)) = true := decide_eq_true c3
  have c3b1 : decide (2 < t579.length) = true := decide_eq_true (by omega)
  clear c3
  simp only [Option.some.injEq, Prod.mk.injEq] at H
  obtain ⟨rfl, rfl⟩ := H
  go_enter Try.func69, Try.ntmps69
  go_wp2_with (first | ((with_reducible refine gate_dst (N := 1) rfl ?_); refine box_event ?hg (N := 1) ?hd (cs := #[.bool a0_0, .slice A0_1 l0_1.length c0_1]) (t := 39) ?hr ?_; (case hd => rfl); (case hg => rfl); (case hr => first | (go_simp; done) | (go_simp; rfl)); intro gb577 hg w4 hbox hb; have BK577 := Aside0.mk (hbox); have GW577 := Sq.gw HB hg; have GE577 := Sq.gw HB hg; replace HB := Sq.bs HB hb; clear hb hbox hg; have hcz5_0 := Sq.bc BK577 0 (.bool a0_0); have hcz5_1 := Sq.bc BK577 1 (.slice A0_1 l0_1.length c0_1); have hfz5_0 := blk_frozen BK577.out 0; have hfz5_1 := blk_frozen BK577.out 1) | ((with_reducible refine gate_callee (f := 73) rfl ?_); refine Sq.gl (some 7) Try.func73 #[.agg #[.bool a0_0, .slice A0_1 l0_1.length c0_1]] ?_; (with_reducible refine (foliotref02_Norm.calls a0_0 _ _ l0_1 t578 t579 _ ?side1 ?side2 A2.out).mono ?_); (case side1 => exact Sq.ca (Kd.C_below HR0_1.out HB.out)); (case side2 => exact HC0_1.out); rintro e w6 ⟨v580, rfl, ho0, hb⟩; refine ⟨_, rfl, ?_⟩; have HO581 := Aside0.mk (Kd.R_lower ho0 (below_size (Sq.bl HB))); replace BK577 := Sq.bb BK577 hb; replace HB := Sq.bs HB hb; (try clear hb); (try clear hb2); (try clear hk); (try clear hi); (try clear ho0); have hcz7_0 := Sq.bc BK577 0 (.bool a0_0); have hcz7_1 := Sq.bc BK577 1 (.slice A0_1 l0_1.length c0_1); have hfz7_0 := blk_frozen BK577.out 0; have hfz7_1 := blk_frozen BK577.out 1; obtain ⟨Ao8, co8, eo8⟩ := Kd.R_slice HO581.out; subst eo8))
  go_ret2
  exact ⟨by first | rfl | (simp [errW_none, errW_some] <;> rfl) | (simp [*, errW_none, errW_some] <;> rfl), Sq.bl HB⟩
 ·rw [if_neg c3] at H
  have c3b0 : decide (2 < (t579.length : Int)) = false := decide_eq_false c3
  have c3b1 : decide (2 < t579.length) = false := decide_eq_false (by omega)
  clear c3
  have H' := Aside0.mk H
  clear H
  go_enter Try.func69, Try.ntmps69
  go_wp2_with (first | ((with_reducible refine gate_dst (N := 1) rfl ?_); refine box_event ?hg (N := 1) ?hd (cs := #[.bool a0_0, .slice A0_1 l0_1.length c0_1]) (t := 39) ?hr ?_; (case hd => rfl); (case hg => rfl); (case hr => first | (go_simp; done) | (go_simp; rfl)); intro gb577 hg w9 hbox hb; have BK577 := Aside0.mk (hbox); have GW577 := Sq.gw HB hg; have GE577 := Sq.gw HB hg; replace HB := Sq.bs HB hb; clear hb hbox hg; have hcz10_0 := Sq.bc BK577 0 (.bool a0_0); have hcz10_1 := Sq.bc BK577 1 (.slice A0_1 l0_1.length c0_1); have hfz10_0 := blk_frozen BK577.out 0; have hfz10_1 := blk_frozen BK577.out 1) | ((with_reducible refine gate_callee (f := 73) rfl ?_); refine Sq.gl (some 7) Try.func73 #[.agg #[.bool a0_0, .slice A0_1 l0_1.length c0_1]] ?_; (with_reducible refine (foliotref02_Norm.calls a0_0 _ _ l0_1 t578 t579 _ ?side1 ?side2 A2.out).mono ?_); (case side1 => exact Sq.ca (Kd.C_below HR0_1.out HB.out)); (case side2 => exact HC0_1.out); rintro e w11 ⟨v580, rfl, ho0, hb⟩; refine ⟨_, rfl, ?_⟩; have HO581 := Aside0.mk (Kd.R_lower ho0 (below_size (Sq.bl HB))); replace BK577 := Sq.bb BK577 hb; replace HB := Sq.bs HB hb; (try clear hb); (try clear hb2); (try clear hk); (try clear hi); (try clear ho0); have hcz12_0 := Sq.bc BK577 0 (.bool a0_0); have hcz12_1 := Sq.bc BK577 1 (.slice A0_1 l0_1.length c0_1); have hfz12_0 := blk_frozen BK577.out 0; have hfz12_1 := blk_frozen BK577.out 1; obtain ⟨Ao13, co13, eo13⟩ := Kd.R_slice HO581.out; subst eo13))
  go_loopg [4, 5] k (fun kq v4 v5 w' => ∃ (x4_1 : Int) (x5_1 : Int), v4 = .int .u64 x4_1 ∧ v5 = .int .i64 x5_1 ∧ Aside0 (foliotref02_Small.l0 kq x4_1 x5_1 t578 t579 = some (r1, r2)) ∧ Aside0 (kq ≤ k) ∧ Aside0 (Kd.R (Kd.int .u32) 107 w' w.heap.size (fun _ => True) (.slice Ao13 t579.length co13) t579) ∧ Aside0 (w'.heap[gb577]? = some (.cells #[.bool t578, (.slice Ao13 t579.length co13)] 39 (0, 0))) ∧ Aside0 (Below w.heap.size w w'))
  case atStart => exact ⟨(0), (wrap64 ((t579.length : Int) - 1)), (by first | rfl | (simp; done) | (simp [*]; done)), (by first | rfl | (simp; done) | (simp [*]; done)), H', ⟨Nat.le_refl _⟩, ⟨by (with_reducible repeat (first | apply Kd.R_alloc | apply Kd.R_drewN | apply Kd.R_drew)); exact Kd.R_mono (Kd.R_far (p := ⟨gb577, 1, none⟩) (Kd.R_far (p := ⟨gb577, 0, none⟩) (Sq.rt HO581.out BK577) (fun _ hk => hk.2) (.bool t578)) (fun _ hk => hk.2) (.slice Ao13 t579.length co13)) (fun _ hk => trivial)⟩, ⟨by (with_reducible repeat (first | refine blk_drewN ?_ _ | refine blk_drew ?_ | refine blk_alloc ?_ _)); refine blk_put (cs := #[.bool t578, .slice A0_1 l0_1.length c0_1]) ?_ 1 _ rfl; (with_reducible repeat (first | refine blk_drewN ?_ _ | refine blk_drew ?_ | refine blk_alloc ?_ _)); refine blk_put (cs := #[.bool a0_0, .slice A0_1 l0_1.length c0_1]) ?_ 0 _ rfl; (with_reducible repeat (first | refine blk_drewN ?_ _ | refine blk_drew ?_ | refine blk_alloc ?_ _)); exact BK577.out⟩, ⟨Sq.bl HB⟩⟩
  case round =>
   clear H'
   try clear p2
   try clear c3
   try clear c3b0
   try clear c3b1
   try clear c6
   try clear p6
   try clear c7
   try clear hcz10_0
   try clear hcz10_1
   try clear hcz12_0
   try clear hcz12_1
   try clear hcz5_0
   try clear hcz5_1
   try clear hcz7_0
   try clear hcz7_1
   try clear hfz10_0
   try clear hfz10_1
   try clear hfz12_0
   try clear hfz12_1
   try clear hfz5_0
   try clear hfz5_1
   try clear hfz7_0
   try clear hfz7_1
   obtain ⟨x4_1, x5_1, rfl, rfl, HA, HK1, HO_578001, BK577, HB⟩ := hrel
   cases gk with
   | zero => exact absurd HA.out (by simp [foliotref02_Small.l0])
   | succ k1 =>
    have H := HA.out
    clear HA
    simp only [foliotref02_Small.l0] at H
    by_cases c14 : x5_1 ≥ 0
    ·rw [if_pos c14] at H
     have c14b0 : decide (0 ≤ x5_1) = true := decide_eq_true c14
     clear c14
     replace H := Sq.ifs H
     obtain ⟨c15, H⟩ := H
     have c15b0 : decide (0 ≤ x5_1) = true := decide_eq_true c15
     clear c15
     replace H := Sq.ifs H
     obtain ⟨c16, H⟩ := H
     have c16b0 : decide (x5_1 < (t579.length : Int)) = true := decide_eq_true c16
     clear c16
     have H' := Aside0.mk H
     clear H
     have hcz17_0 := Sq.bc BK577 0 (.bool t578)
     have hcz17_1 := Sq.bc BK577 1 (.slice Ao13 t579.length co13)
     have hfz17_0 := blk_frozen BK577.out 0
     have hfz17_1 := blk_frozen BK577.out 1
     have p582 : 0 ≤ (x5_1 : Int) := of_decide_eq_true (by first | (with_reducible assumption) | assumption)
     have q582 : x5_1 < (t579.length : Int) := of_decide_eq_true (by first | (with_reducible assumption) | assumption)
     obtain ⟨ad582, e582, hx582_0⟩ := Kd.at_int (Kd.R_reads' HO_578001.out).2.2 x5_1 p582 q582
     cases e582
     replace p582 := eq_true p582
     replace q582 := eq_true q582
     go_wp2
     go_roundg k1
     case measure => have := HK1.out; omega
     case rel => exact ⟨(Go.bits .or .u64 (IntKind.u64.wrap (x4_1 * 4294967296)) (IntKind.u64.wrap (rd t579 x5_1))), (wrap64 (x5_1 - 1)), (by first | rfl | (simp; done) | (simp [*]; done)), (by first | rfl | (simp; done) | (simp [*]; done)), H', ⟨by have := HK1.out; omega⟩, ⟨by (with_reducible repeat (first | apply Kd.R_alloc | apply Kd.R_drewN | apply Kd.R_drew)); exact HO_578001.out⟩, ⟨by (with_reducible repeat (first | refine blk_drewN ?_ _ | refine blk_drew ?_ | refine blk_alloc ?_ _)); exact BK577.out⟩, ⟨Sq.bl HB⟩⟩
    ·rw [if_neg c14] at H
     have c14b0 : decide (0 ≤ x5_1) = false := decide_eq_false c14
     clear c14
     by_cases c18 : t578 = true
     ·subst c18
      have H1 : (some (wrap64 (IntKind.u64.wrap (-x4_1)), decide (x4_1 ≤ 9223372036854775808))) = some (r1, r2) := by rw [if_pos rfl] at H; exact H
      clear H
      have H := H1
      clear H1
      simp only [Option.some.injEq, Prod.mk.injEq] at H
      obtain ⟨rfl, rfl⟩ := H
      have hcz19_0 := Sq.bc BK577 0 (.bool true)
      have hcz19_1 := Sq.bc BK577 1 (.slice Ao13 t579.length co13)
      have hfz19_0 := blk_frozen BK577.out 0
      have hfz19_1 := blk_frozen BK577.out 1
      go_wp2
      go_ret2
      exact ⟨by first | rfl | (simp [errW_none, errW_some] <;> rfl) | (simp [*, errW_none, errW_some] <;> rfl), Sq.bl HB⟩
     ·replace c18 := Bool.eq_false_iff.mpr c18
      subst c18
      have H1 : (if x4_1 ≥ 9223372036854775808 then (some (0, false)) else (some (wrap64 (x4_1), true))) = some (r1, r2) := by rw [if_neg (show ¬ (false = true) by decide)] at H; exact H
      clear H
      have H := H1
      clear H1
      by_cases c20 : x4_1 ≥ 9223372036854775808
      ·rw [if_pos c20] at H
       have c20b0 : decide (9223372036854775808 ≤ x4_1) = true := decide_eq_true c20
       clear c20
       simp only [Option.some.injEq, Prod.mk.injEq] at H
       obtain ⟨rfl, rfl⟩ := H
       have hcz21_0 := Sq.bc BK577 0 (.bool false)
       have hcz21_1 := Sq.bc BK577 1 (.slice Ao13 t579.length co13)
       have hfz21_0 := blk_frozen BK577.out 0
       have hfz21_1 := blk_frozen BK577.out 1
       go_wp2
       go_ret2
       exact ⟨by first | rfl | (simp [errW_none, errW_some] <;> rfl) | (simp [*, errW_none, errW_some] <;> rfl), Sq.bl HB⟩
      ·rw [if_neg c20] at H
       have c20b0 : decide (9223372036854775808 ≤ x4_1) = false := decide_eq_false c20
       clear c20
       simp only [Option.some.injEq, Prod.mk.injEq] at H
       obtain ⟨rfl, rfl⟩ := H
       have hcz22_0 := Sq.bc BK577 0 (.bool false)
       have hcz22_1 := Sq.bc BK577 1 (.slice Ao13 t579.length co13)
       have hfz22_0 := blk_frozen BK577.out 0
       have hfz22_1 := blk_frozen BK577.out 1
       go_wp2
       go_ret2
       exact ⟨by first | rfl | (simp [errW_none, errW_some] <;> rfl) | (simp [*, errW_none, errW_some] <;> rfl), Sq.bl HB⟩
def integer_Of.f (a0 : Int) : Option (Bool × List Int) := if a0 < 0 then ((integer_sign_with.f (decide (a0 < 0)) (([(IntKind.u64.wrap (-(IntKind.u64.wrap (a0)))) % 4294967296, ((IntKind.u64.wrap (-(IntKind.u64.wrap (a0)))) / 4294967296) % 4294967296] : List Int))).bind fun bt587 => (some (bt587.1, bt587.2))) else ((integer_sign_with.f (decide (a0 < 0)) (([(IntKind.u64.wrap (a0)) % 4294967296, ((IntKind.u64.wrap (a0)) / 4294967296) % 4294967296] : List Int))).bind fun bt594 => (some (bt594.1, bt594.2)))
set_option maxHeartbeats 8000000 in
set_option maxRecDepth 100000 in
theorem integer_Of.calls (a0 : Int) (r1 : Bool) (r2 : List Int) (w : World) (h : integer_Of.f a0 = some (r1, r2)) :
  Calls Try.prog 70 #[.int .i64 a0] w fun e w' => ∃ v1_ : Value, e = .returned (.agg #[.bool r1, v1_]) ∧ Kd.R (Kd.int .u32) 107 w' w.heap.size (fun _ => True) v1_ r2 ∧ Below w.heap.size w w' := by
 have hu39 := Try.underlying39
 have HB := Aside0.mk (Below.refl w.heap.size w)
 have H : (if a0 < 0 then ((integer_sign_with.f (decide (a0 < 0)) (([(IntKind.u64.wrap (-(IntKind.u64.wrap (a0)))) % 4294967296, ((IntKind.u64.wrap (-(IntKind.u64.wrap (a0)))) / 4294967296) % 4294967296] : List Int))).bind fun bt587 => (some (bt587.1, bt587.2))) else ((integer_sign_with.f (decide (a0 < 0)) (([(IntKind.u64.wrap (a0)) % 4294967296, ((IntKind.u64.wrap (a0)) / 4294967296) % 4294967296] : List Int))).bind fun bt594 => (some (bt594.1, bt594.2)))) = some (r1, r2) := h
 clear h
 by_cases c2 : a0 < 0
 ·rw [if_pos c2] at H
  rw [decide_eq_true c2] at H
  have c2b0 : decide (a0 < 0) = true := decide_eq_true c2
  clear c2
  obtain ⟨y584, hy584⟩ : ∃ y_ : List Int, y_ = (([(IntKind.u64.wrap (-(IntKind.u64.wrap (a0)))) % 4294967296, ((IntKind.u64.wrap (-(IntKind.u64.wrap (a0)))) / 4294967296) % 4294967296] : List Int)) := ⟨_, rfl⟩
  (first | (replace H := Sq.ny hy584 H; (try dsimp -simprocs only at H)) | rw [← hy584] at H | skip)
  have Ny584 := Aside0.mk hy584
  clear hy584
  replace H := Sq.bd H
  obtain ⟨⟨t587, t588⟩, A3, H⟩ := H
  (try dsimp -simprocs only at H)
  simp only [Option.some.injEq, Prod.mk.injEq] at H
  obtain ⟨rfl, rfl⟩ := H
  go_enter Try.func70, Try.ntmps70
  go_wp2_with (first | ((with_reducible refine gate_dst (N := 2) rfl ?_); refine box_event ?hg (N := 2) ?hd (cs := #[.bool false, .slice none 0 0]) (t := 39) ?hr ?_; (case hd => rfl); (case hg => rfl); (case hr => first | (go_simp; done) | (go_simp; rfl)); intro gb583 hg w4 hbox hb; have BK583 := Aside0.mk (hbox); have GW583 := Sq.gw HB hg; have GE583 := Sq.gw HB hg; replace HB := Sq.bs HB hb; clear hb hbox hg) | ((with_reducible refine gate_dst (N := 17) rfl ?_); refine Kd.R_lit (Kd.int .u32) _ 107 ?hg (N := 17) ?hd (xs := ([(IntKind.u64.wrap (-(IntKind.u64.wrap (a0)))) % 4294967296, ((IntKind.u64.wrap (-(IntKind.u64.wrap (a0)))) / 4294967296) % 4294967296] : List Int)) (inner := [.int .u32 ((IntKind.u64.wrap (-(IntKind.u64.wrap (a0)))) % 4294967296), .int .u32 (((IntKind.u64.wrap (-(IntKind.u64.wrap (a0)))) / 4294967296) % 4294967296)]) (ok := fun _ => True) (okp := fun _ => True) ?hr ?hp (fun _ hk => hk) trivial (Below.refl _ _) (Nat.le_refl _) (by simp) ?_; (case hd => rfl); (case hg => rfl); (case hr => first | (go_simp; done) | (go_simp; rfl)); (case hp => exact (Reps.one (show Kd.M (Kd.int .u32) _ _ _ ((IntKind.u64.wrap (-(IntKind.u64.wrap (a0)))) % 4294967296) [.int .u32 ((IntKind.u64.wrap (-(IntKind.u64.wrap (a0)))) % 4294967296)] from rfl) (Reps.one (show Kd.M (Kd.int .u32) _ _ _ (((IntKind.u64.wrap (-(IntKind.u64.wrap (a0)))) / 4294967296) % 4294967296) [.int .u32 (((IntKind.u64.wrap (-(IntKind.u64.wrap (a0)))) / 4294967296) % 4294967296)] from rfl) (Reps.none _ _)))); intro v585 w5 ho6 hb hg_ hnew_; clear hg_ hnew_; (first | rw [← Ny584.out] at ho6 | (simp only [Int.reduceToNat] at ho6; rw [← Ny584.out] at ho6)); have HO586 := Aside0.mk (Kd.R_lower ho6 (below_size (Sq.bl HB))); replace BK583 := Sq.bb BK583 hb; replace HB := Sq.bs HB hb; clear hb ho6; obtain ⟨Ao7, co7, eo7⟩ := Kd.R_slice HO586.out; subst eo7) | ((with_reducible refine gate_callee (f := 147) rfl ?_); refine Sq.gl (some 18) Try.func147 #[.bool true, .slice Ao7 y584.length co7] ?_; (with_reducible refine (integer_sign_with.calls true _ _ y584 t587 t588 _ ?side1 ?side2 A3.out).mono ?_); (case side1 => exact Sq.ca (Kd.R_reads' HO586.out).2.2); (case side2 => exact (Kd.R_reads' HO586.out).2.1); rintro e w8 ⟨v589, rfl, ho0, hb⟩; refine ⟨_, rfl, ?_⟩; have HO590 := Aside0.mk (Kd.R_lower (Kd.R_new' ho0 (Kd.R_lt (Sq.al HO586))) (below_size (Sq.bl HB))); replace BK583 := Sq.bb BK583 hb; replace HO586 := Aside0.mk (Kd.R_elder' (Sq.al HO586) (Kd.R_base ho0) hb); replace HB := Sq.bs HB hb; (try clear hb); (try clear hb2); (try clear hk); (try clear hi); (try clear ho0); have hcz9_0 := Sq.bc BK583 0 (.bool false); have hcz9_1 := Sq.bc BK583 1 (.slice none 0 0); have hfz9_0 := blk_frozen BK583.out 0; have hfz9_1 := blk_frozen BK583.out 1; obtain ⟨Ao10, co10, eo10⟩ := Kd.R_slice HO590.out; subst eo10))
  refine bodyPost_ret (results_cell_row rfl _ _ gb583 39 #[.bool t587, .slice Ao10 t588.length co10] (0, 0) _ rfl (by (with_reducible repeat (first | refine blk_drewN ?_ _ | refine blk_drew ?_ | refine blk_alloc ?_ _)); refine blk_put (cs := #[.bool t587, .slice none 0 0]) ?_ 1 _ rfl; (with_reducible repeat (first | refine blk_drewN ?_ _ | refine blk_drew ?_ | refine blk_alloc ?_ _)); refine blk_put (cs := #[.bool false, .slice none 0 0]) ?_ 0 _ rfl; (with_reducible repeat (first | refine blk_drewN ?_ _ | refine blk_drew ?_ | refine blk_alloc ?_ _)); exact BK583.out) Try.underlying39 rfl (by kernel_rfl)) rfl ?_
  exact ⟨_, by first | rfl | (simp [errW_none, errW_some] <;> rfl) | (simp [*, errW_none, errW_some] <;> rfl), by (with_reducible repeat (first | apply Kd.R_alloc | apply Kd.R_drewN | apply Kd.R_drew)); exact Kd.R_mono (Kd.R_far (p := ⟨gb583, 1, none⟩) (Kd.R_far (p := ⟨gb583, 0, none⟩) (Sq.rt HO590.out BK583) (fun _ hk => hk.2) (.bool t587)) (fun _ hk => hk.2) (.slice Ao10 t588.length co10)) (fun _ hk => trivial), Sq.bl HB⟩
 ·rw [if_neg c2] at H
  rw [decide_eq_false c2] at H
  have c2b0 : decide (a0 < 0) = false := decide_eq_false c2
  clear c2
  obtain ⟨y591, hy591⟩ : ∃ y_ : List Int, y_ = (([(IntKind.u64.wrap (a0)) % 4294967296, ((IntKind.u64.wrap (a0)) / 4294967296) % 4294967296] : List Int)) := ⟨_, rfl⟩
  (first | (replace H := Sq.ny hy591 H; (try dsimp -simprocs only at H)) | rw [← hy591] at H | skip)
  have Ny591 := Aside0.mk hy591
  clear hy591
  replace H := Sq.bd H
  obtain ⟨⟨t594, t595⟩, A11, H⟩ := H
  (try dsimp -simprocs only at H)
  simp only [Option.some.injEq, Prod.mk.injEq] at H
  obtain ⟨rfl, rfl⟩ := H
  go_enter Try.func70, Try.ntmps70
  go_wp2_with (first | ((with_reducible refine gate_dst (N := 2) rfl ?_); refine box_event ?hg (N := 2) ?hd (cs := #[.bool false, .slice none 0 0]) (t := 39) ?hr ?_; (case hd => rfl); (case hg => rfl); (case hr => first | (go_simp; done) | (go_simp; rfl)); intro gb583 hg w12 hbox hb; have BK583 := Aside0.mk (hbox); have GW583 := Sq.gw HB hg; have GE583 := Sq.gw HB hg; replace HB := Sq.bs HB hb; clear hb hbox hg) | ((with_reducible refine gate_dst (N := 17) rfl ?_); refine Kd.R_lit (Kd.int .u32) _ 107 ?hg (N := 17) ?hd (xs := ([(IntKind.u64.wrap (a0)) % 4294967296, ((IntKind.u64.wrap (a0)) / 4294967296) % 4294967296] : List Int)) (inner := [.int .u32 ((IntKind.u64.wrap (a0)) % 4294967296), .int .u32 (((IntKind.u64.wrap (a0)) / 4294967296) % 4294967296)]) (ok := fun _ => True) (okp := fun _ => True) ?hr ?hp (fun _ hk => hk) trivial (Below.refl _ _) (Nat.le_refl _) (by simp) ?_; (case hd => rfl); (case hg => rfl); (case hr => first | (go_simp; done) | (go_simp; rfl)); (case hp => exact (Reps.one (show Kd.M (Kd.int .u32) _ _ _ ((IntKind.u64.wrap (a0)) % 4294967296) [.int .u32 ((IntKind.u64.wrap (a0)) % 4294967296)] from rfl) (Reps.one (show Kd.M (Kd.int .u32) _ _ _ (((IntKind.u64.wrap (a0)) / 4294967296) % 4294967296) [.int .u32 (((IntKind.u64.wrap (a0)) / 4294967296) % 4294967296)] from rfl) (Reps.none _ _)))); intro v592 w13 ho14 hb hg_ hnew_; clear hg_ hnew_; (first | rw [← Ny591.out] at ho14 | (simp only [Int.reduceToNat] at ho14; rw [← Ny591.out] at ho14)); have HO593 := Aside0.mk (Kd.R_lower ho14 (below_size (Sq.bl HB))); replace BK583 := Sq.bb BK583 hb; replace HB := Sq.bs HB hb; clear hb ho14; obtain ⟨Ao15, co15, eo15⟩ := Kd.R_slice HO593.out; subst eo15) | ((with_reducible refine gate_callee (f := 147) rfl ?_); refine Sq.gl (some 18) Try.func147 #[.bool false, .slice Ao15 y591.length co15] ?_; (with_reducible refine (integer_sign_with.calls false _ _ y591 t594 t595 _ ?side1 ?side2 A11.out).mono ?_); (case side1 => exact Sq.ca (Kd.R_reads' HO593.out).2.2); (case side2 => exact (Kd.R_reads' HO593.out).2.1); rintro e w16 ⟨v596, rfl, ho0, hb⟩; refine ⟨_, rfl, ?_⟩; have HO597 := Aside0.mk (Kd.R_lower (Kd.R_new' ho0 (Kd.R_lt (Sq.al HO593))) (below_size (Sq.bl HB))); replace BK583 := Sq.bb BK583 hb; replace HO593 := Aside0.mk (Kd.R_elder' (Sq.al HO593) (Kd.R_base ho0) hb); replace HB := Sq.bs HB hb; (try clear hb); (try clear hb2); (try clear hk); (try clear hi); (try clear ho0); have hcz17_0 := Sq.bc BK583 0 (.bool false); have hcz17_1 := Sq.bc BK583 1 (.slice none 0 0); have hfz17_0 := blk_frozen BK583.out 0; have hfz17_1 := blk_frozen BK583.out 1; obtain ⟨Ao18, co18, eo18⟩ := Kd.R_slice HO597.out; subst eo18))
  refine bodyPost_ret (results_cell_row rfl _ _ gb583 39 #[.bool t594, .slice Ao18 t595.length co18] (0, 0) _ rfl (by (with_reducible repeat (first | refine blk_drewN ?_ _ | refine blk_drew ?_ | refine blk_alloc ?_ _)); refine blk_put (cs := #[.bool t594, .slice none 0 0]) ?_ 1 _ rfl; (with_reducible repeat (first | refine blk_drewN ?_ _ | refine blk_drew ?_ | refine blk_alloc ?_ _)); refine blk_put (cs := #[.bool false, .slice none 0 0]) ?_ 0 _ rfl; (with_reducible repeat (first | refine blk_drewN ?_ _ | refine blk_drew ?_ | refine blk_alloc ?_ _)); exact BK583.out) Try.underlying39 rfl (by kernel_rfl)) rfl ?_
  exact ⟨_, by first | rfl | (simp [errW_none, errW_some] <;> rfl) | (simp [*, errW_none, errW_some] <;> rfl), by (with_reducible repeat (first | apply Kd.R_alloc | apply Kd.R_drewN | apply Kd.R_drew)); exact Kd.R_mono (Kd.R_far (p := ⟨gb583, 1, none⟩) (Kd.R_far (p := ⟨gb583, 0, none⟩) (Sq.rt HO597.out BK583) (fun _ hk => hk.2) (.bool t594)) (fun _ hk => hk.2) (.slice Ao18 t595.length co18)) (fun _ hk => trivial), Sq.bl HB⟩
end Go.Proofs.Ytaclkccgjpjdjaa.I
