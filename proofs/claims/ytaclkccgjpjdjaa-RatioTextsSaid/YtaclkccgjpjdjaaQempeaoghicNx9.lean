import Derived.Test.YtaclkccgjpjdjaaQemgcbmfiflNx0
import Derived.Test.YtaclkccgjpjdjaaQjpoceikpiaNx7
import Derived.Test.YtaclkccgjpjdjaaQjcimbkdfckNx8
import Derived.Test.YtaclkccgjpjdjaaQpbgibbbgddM
namespace Go.Proofs.Ytaclkccgjpjdjaa.N
open Go.RowKit Go.Proofs.YtaclkccgjpjdjaaW.PrintWords Go.Proofs.YtaclkccgjpjdjaaW.PrintLast Go.Proofs.YtaclkccgjpjdjaaW.PrintMore
attribute [local go_sem] max2_int min2_int max_two min_two max_three min_three max_four min_four   -- for this text's walks alone
set_option linter.unusedVariables false
set_option linter.unusedSimpArgs false
mutual
def foliotref01_sub.l0 : Nat → List Bool → List Bool → List Bool → Bool → Int → Option (List Bool)
 | 0, _, _, _, _, _ => none
 | k + 1, x0, x1, x5, x6, x7 => if x7 < (x0.length : Int) then ((foliotref01_at.f x0 x7).bind fun t464 => (if t464 = true then (foliotref01_sub.j1 k x0 x1 x5 x6 x7 (0 + 1)) else (foliotref01_sub.j1 k x0 x1 x5 x6 x7 0))) else ((foliotref01_cut.f k x5).bind fun t461 => (some t461))
def foliotref01_sub.j1 : Nat → List Bool → List Bool → List Bool → Bool → Int → Int → Option (List Bool)
 | 0, _, _, _, _, _, _ => none
 | k + 1, x0, x1, x5, x6, x7, x8 => (foliotref01_at.f x1 x7).bind fun t465 => (if t465 = true then (if x6 = true then (if (wrap64 ((wrap64 (x8 - 1)) - 1)) = 1 then (if x5.length < 140737488355328 then (foliotref01_sub.l0 k x0 x1 (x5 ++ [true]) (decide ((wrap64 ((wrap64 (x8 - 1)) - 1)) < 0)) (wrap64 (x7 + 1))) else (none)) else (if x5.length < 140737488355328 then (foliotref01_sub.l0 k x0 x1 (x5 ++ [((wrap64 ((wrap64 (x8 - 1)) - 1)) == (-1))]) (decide ((wrap64 ((wrap64 (x8 - 1)) - 1)) < 0)) (wrap64 (x7 + 1))) else (none))) else (if (wrap64 (x8 - 1)) = 1 then (if x5.length < 140737488355328 then (foliotref01_sub.l0 k x0 x1 (x5 ++ [true]) (decide ((wrap64 (x8 - 1)) < 0)) (wrap64 (x7 + 1))) else (none)) else (if x5.length < 140737488355328 then (foliotref01_sub.l0 k x0 x1 (x5 ++ [((wrap64 (x8 - 1)) == (-1))]) (decide ((wrap64 (x8 - 1)) < 0)) (wrap64 (x7 + 1))) else (none)))) else (if x6 = true then (if (wrap64 (x8 - 1)) = 1 then (if x5.length < 140737488355328 then (foliotref01_sub.l0 k x0 x1 (x5 ++ [true]) (decide ((wrap64 (x8 - 1)) < 0)) (wrap64 (x7 + 1))) else (none)) else (if x5.length < 140737488355328 then (foliotref01_sub.l0 k x0 x1 (x5 ++ [((wrap64 (x8 - 1)) == (-1))]) (decide ((wrap64 (x8 - 1)) < 0)) (wrap64 (x7 + 1))) else (none))) else (if x8 = 1 then (if x5.length < 140737488355328 then (foliotref01_sub.l0 k x0 x1 (x5 ++ [true]) (decide (x8 < 0)) (wrap64 (x7 + 1))) else (none)) else (if x5.length < 140737488355328 then (foliotref01_sub.l0 k x0 x1 (x5 ++ [(x8 == (-1))]) (decide (x8 < 0)) (wrap64 (x7 + 1))) else (none)))))
end
def foliotref01_sub.f (k : Nat) (l0 : List Bool) (l1 : List Bool) : Option (List Bool) := foliotref01_sub.l0 k l0 l1 ([] : List Bool) false 0
set_option maxHeartbeats 8000000 in
set_option maxRecDepth 100000 in
theorem foliotref01_sub.calls (k : Nat) (A0 : Option Addr) (c0 : Nat) (l0 : List Bool) (A1 : Option Addr) (c1 : Nat) (l1 : List Bool) (r : List Bool) (w : World) (hr0 : Kd.C Kd.bool w A0 l0.length l0) (hc0 : l0.length ≤ c0) (hr1 : Kd.C Kd.bool w A1 l1.length l1) (hc1 : l1.length ≤ c1) (h : foliotref01_sub.f k l0 l1 = some r) :
  Calls Try.prog 144 #[.slice A0 l0.length c0, .slice A1 l1.length c1] w fun e w' => ∃ v0_ : Value, e = .returned (v0_) ∧ Kd.V Kd.bool 4 w' w.heap.size (fun k_ => (w.heap.size ≤ k_)) v0_ r ∧ Below w.heap.size w w' := by
 have HR0 := Aside0.mk hr0
 have HC0 := Aside0.mk hc0
 clear hr0 hc0
 have HR1 := Aside0.mk hr1
 have HC1 := Aside0.mk hc1
 clear hr1 hc1
 have HB := Aside0.mk (Below.refl w.heap.size w)
 have H : (foliotref01_sub.l0 k l0 l1 ([] : List Bool) false 0) = some r := h
 clear h
 have H' := Aside0.mk H
 clear H
 go_enter Try.func144, Try.ntmps144
 go_wp2
 go_loopg [5, 6, 7] k (fun kq v5 v6 v7 w' => ∃ (x5_1 : List Bool) (x6_1 : Bool) (x7_1 : Int), v6 = .bool x6_1 ∧ v7 = .int .i64 x7_1 ∧ Aside0 (foliotref01_sub.l0 kq l0 l1 x5_1 x6_1 x7_1 = some r) ∧ Aside0 (kq ≤ k) ∧ Aside0 (Kd.R Kd.bool 4 w' w.heap.size (fun k_ => (w.heap.size ≤ k_)) v5 x5_1) ∧ Aside0 (Below w.heap.size w w'))
 case atStart => exact ⟨(([] : List Bool)), (false), (0), (by first | rfl | (simp; done) | (simp [*]; done)), (by first | rfl | (simp; done) | (simp [*]; done)), H', ⟨Nat.le_refl _⟩, ⟨by first | exact Kd.R_nil _ _ _ _ _ | exact Kd.N_nil _ _ _ _ _ | exact Kd.V_nil _ _ _ _ _ | exact Kd.Q_nil _ _ _ _ _ | exact Kd.S_nil _ _ _ _ _⟩, ⟨Sq.bl HB⟩⟩
 case round =>
  clear H'
  try clear c1
  try clear p2
  obtain ⟨x5_1, x6_1, x7_1, rfl, rfl, HA, HK1, HO_5, HB⟩ := hrel
  cases gk with
  | zero => exact absurd HA.out (by simp [foliotref01_sub.l0])
  | succ k1 =>
   have H := HA.out
   clear HA
   simp only [foliotref01_sub.l0] at H
   by_cases c3 : x7_1 < (l0.length : Int)
   ·rw [if_pos c3] at H
    have c3b0 : decide (x7_1 < (l0.length : Int)) = true := decide_eq_true c3
    clear c3
    replace H := Sq.bd H
    obtain ⟨t464, A4, H⟩ := H
    (try dsimp -simprocs only at H)
    have HC5 := Aside0.mk H
    clear H
    go_upto_if 17 with (first | ((with_reducible refine gate_callee (f := 175) rfl ?_); refine Sq.gl (some 17) Try.func175 #[.slice A0 l0.length c0, .int .i64 x7_1] ?_; (with_reducible refine (foliotref01_at.calls _ _ l0 x7_1 t464 _ ?side1 ?side2 A4.out).mono ?_); (case side1 => exact Sq.ca (Kd.C_below HR0.out HB.out)); (case side2 => exact HC0.out); rintro e w' ⟨rfl, ⟨nd, rfl⟩⟩; refine ⟨_, rfl, ?_⟩))
    (try simp only [Act.put, List.setIfInBounds_toArray, List.set_cons_zero, List.set_cons_succ])
    go_cut [8] (fun v8 wc => ∃ (kq : Nat) (x8_4 : Int), v8 = .int .i64 x8_4 ∧ Aside0 (foliotref01_sub.j1 kq l0 l1 x5_1 x6_1 x7_1 x8_4 = some r) ∧ Aside0 (kq ≤ k1) ∧ Aside0 (Kd.R Kd.bool 4 wc w.heap.size (fun k_ => (w.heap.size ≤ k_)) u5 x5_1) ∧ Aside0 (Below w.heap.size w wc))
    case first =>
     have H := HC5.out
     clear HC5
     by_cases c6 : t464 = true
     ·subst c6
      have H1 : (foliotref01_sub.j1 k1 l0 l1 x5_1 x6_1 x7_1 (0 + 1)) = some r := by rw [if_pos rfl] at H; exact H
      clear H
      have H := H1
      clear H1
      have H' := Aside0.mk H
      clear H
      go_wp2
      go_meet
      case rel => exact ⟨_, (0 + 1), (by first | rfl | (simp; done) | (simp [*]; done)), H', ⟨by have := HK1.out; first | omega | exact Nat.le_refl _⟩, ⟨by (with_reducible repeat (first | apply Kd.R_alloc | apply Kd.R_drewN | apply Kd.R_drew)); exact HO_5.out⟩, ⟨Sq.bl HB⟩⟩
     ·replace c6 := Bool.eq_false_iff.mpr c6
      subst c6
      have H1 : (foliotref01_sub.j1 k1 l0 l1 x5_1 x6_1 x7_1 0) = some r := by rw [if_neg (show ¬ (false = true) by decide)] at H; exact H
      clear H
      have H := H1
      clear H1
      have H' := Aside0.mk H
      clear H
      go_wp2
      go_meet
      case rel => exact ⟨_, (0), (by first | rfl | (simp; done) | (simp [*]; done)), H', ⟨by have := HK1.out; first | omega | exact Nat.le_refl _⟩, ⟨by (with_reducible repeat (first | apply Kd.R_alloc | apply Kd.R_drewN | apply Kd.R_drew)); exact HO_5.out⟩, ⟨Sq.bl HB⟩⟩
    case rest =>
     clear HC5
     try clear c1
     try clear p2
     try clear c3
     try clear c3b0
     try clear c6
     try clear p2
     obtain ⟨kq, x8_4, rfl, HA, HJ4, HO_5, HB⟩ := hcut
     cases kq with
     | zero => exact absurd HA.out (by simp [foliotref01_sub.j1])
     | succ kj4 =>
      have H := HA.out
      clear HA
      simp only [foliotref01_sub.j1] at H
      replace H := Sq.bd H
      obtain ⟨t465, A7, H⟩ := H
      (try dsimp -simprocs only at H)
      by_cases c8 : t465 = true
      ·subst c8
       have H1 : (if x6_1 = true then (if (wrap64 ((wrap64 (x8_4 - 1)) - 1)) = 1 then (if x5_1.length < 140737488355328 then (foliotref01_sub.l0 kj4 l0 l1 (x5_1 ++ [true]) (decide ((wrap64 ((wrap64 (x8_4 - 1)) - 1)) < 0)) (wrap64 (x7_1 + 1))) else (none)) else (if x5_1.length < 140737488355328 then (foliotref01_sub.l0 kj4 l0 l1 (x5_1 ++ [((wrap64 ((wrap64 (x8_4 - 1)) - 1)) == (-1))]) (decide ((wrap64 ((wrap64 (x8_4 - 1)) - 1)) < 0)) (wrap64 (x7_1 + 1))) else (none))) else (if (wrap64 (x8_4 - 1)) = 1 then (if x5_1.length < 140737488355328 then (foliotref01_sub.l0 kj4 l0 l1 (x5_1 ++ [true]) (decide ((wrap64 (x8_4 - 1)) < 0)) (wrap64 (x7_1 + 1))) else (none)) else (if x5_1.length < 140737488355328 then (foliotref01_sub.l0 kj4 l0 l1 (x5_1 ++ [((wrap64 (x8_4 - 1)) == (-1))]) (decide ((wrap64 (x8_4 - 1)) < 0)) (wrap64 (x7_1 + 1))) else (none)))) = some r := by rw [if_pos rfl] at H; exact H
       clear H
       have H := H1
       clear H1
       by_cases c9 : x6_1 = true
       ·subst c9
        have H1 : (if (wrap64 ((wrap64 (x8_4 - 1)) - 1)) = 1 then (if x5_1.length < 140737488355328 then (foliotref01_sub.l0 kj4 l0 l1 (x5_1 ++ [true]) (decide ((wrap64 ((wrap64 (x8_4 - 1)) - 1)) < 0)) (wrap64 (x7_1 + 1))) else (none)) else (if x5_1.length < 140737488355328 then (foliotref01_sub.l0 kj4 l0 l1 (x5_1 ++ [((wrap64 ((wrap64 (x8_4 - 1)) - 1)) == (-1))]) (decide ((wrap64 ((wrap64 (x8_4 - 1)) - 1)) < 0)) (wrap64 (x7_1 + 1))) else (none))) = some r := by rw [if_pos rfl] at H; exact H
        clear H
        have H := H1
        clear H1
        by_cases c10 : (wrap64 ((wrap64 (x8_4 - 1)) - 1)) = 1
        ·rw [if_pos c10] at H
         have c10b0 : ((wrap64 ((wrap64 (x8_4 - 1)) - 1)) == 1) = true := beq_iff_eq.mpr c10
         have c10b1 : ((wrap64 ((wrap64 (x8_4 - 1)) - 1)) != 1) = false := bne_eq_false_iff_eq.mpr c10
         clear c10
         replace H := Sq.ifs H
         obtain ⟨c11, H⟩ := H
         have LMc11 := Aside0.mk c11
         clear c11
         obtain ⟨y466, hy466⟩ : ∃ y_ : List Bool, y_ = (x5_1 ++ [true]) := ⟨_, rfl⟩
         (first | (replace H := Sq.ny hy466 H; (try dsimp -simprocs only at H)) | rw [← hy466] at H | skip)
         have Ny466 := Aside0.mk hy466
         clear hy466
         have H' := Aside0.mk H
         clear H
         go_wp2_with (first | ((with_reducible refine gate_callee (f := 175) rfl ?_); refine Sq.gl (some 22) Try.func175 #[.slice A1 l1.length c1, .int .i64 x7_1] ?_; (with_reducible refine (foliotref01_at.calls _ _ l1 x7_1 true _ ?side1 ?side2 A7.out).mono ?_); (case side1 => exact Sq.ca (Kd.C_below HR1.out HB.out)); (case side2 => exact HC1.out); rintro e w' ⟨rfl, ⟨nd, rfl⟩⟩; refine ⟨_, rfl, ?_⟩) | ((with_reducible refine gate_builtin (b := .append) (xs := #[.tmp 28, .tmp 35]) rfl ?_); at_builtin; refine Kd.R_append Kd.bool (w0 := w) w.heap.size rfl (.tmp 28) (.tmp 35) 63 4 (.bool false) 1 rfl Try.underlying63 info4 rfl (by decide) (by omega) u5 x5_1 true [.bool true] (fun k_ => (w.heap.size ≤ k_)) (fun _ => False) rfl rfl ?aP (fun _ hk => hk.elim) ?aF ?aO ?aB ?aS ?aL ?_; (case aP => exact rfl); (case aB => exact (Sq.bl HB)); (case aF => exact (fun k_ hk => (Nat.le_trans (below_size (Sq.bl HB)) hk))); (case aO => exact (Sq.al HO_5)); (case aS => exact (below_size (Sq.bl HB))); (case aL => have := LMc11.out; omega); intro v467 w12 ho hb hg hat; rw [← Ny466.out] at ho; replace HB := Aside0.mk (hb); have HO468 := Aside0.mk (ho); clear HO_5; clear ho hb hg hat))
         go_roundg kj4
         case measure => have := HK1.out; have := HJ4.out; omega
         case rel => exact ⟨(y466), (decide ((wrap64 ((wrap64 (x8_4 - 1)) - 1)) < 0)), (wrap64 (x7_1 + 1)), (by first | rfl | (simp; done) | (simp [*]; done)), (by first | rfl | (simp; done) | (simp [*]; done)), H', ⟨by have := HK1.out; have := HJ4.out; omega⟩, ⟨by (with_reducible repeat (first | apply Kd.R_alloc | apply Kd.R_drewN | apply Kd.R_drew)); exact HO468.out⟩, ⟨Sq.bl HB⟩⟩
        ·rw [if_neg c10] at H
         have c10b0 : ((wrap64 ((wrap64 (x8_4 - 1)) - 1)) == 1) = false := beq_eq_false_iff_ne.mpr c10
         have c10b1 : ((wrap64 ((wrap64 (x8_4 - 1)) - 1)) != 1) = true := bne_iff_ne.mpr c10
         replace H := Sq.ifs H
         obtain ⟨c13, H⟩ := H
         have LMc13 := Aside0.mk c13
         clear c13
         obtain ⟨y469, hy469⟩ : ∃ y_ : List Bool, y_ = (x5_1 ++ [((wrap64 ((wrap64 (x8_4 - 1)) - 1)) == (-1))]) := ⟨_, rfl⟩
         (first | (replace H := Sq.ny hy469 H; (try dsimp -simprocs only at H)) | rw [← hy469] at H | skip)
         have Ny469 := Aside0.mk hy469
         clear hy469
         have H' := Aside0.mk H
         clear H
         go_wp2_with (first | ((with_reducible refine gate_callee (f := 175) rfl ?_); refine Sq.gl (some 22) Try.func175 #[.slice A1 l1.length c1, .int .i64 x7_1] ?_; (with_reducible refine (foliotref01_at.calls _ _ l1 x7_1 true _ ?side1 ?side2 A7.out).mono ?_); (case side1 => exact Sq.ca (Kd.C_below HR1.out HB.out)); (case side2 => exact HC1.out); rintro e w' ⟨rfl, ⟨nd, rfl⟩⟩; refine ⟨_, rfl, ?_⟩) | ((with_reducible refine gate_builtin (b := .append) (xs := #[.tmp 28, .tmp 35]) rfl ?_); at_builtin; refine Kd.R_append Kd.bool (w0 := w) w.heap.size rfl (.tmp 28) (.tmp 35) 63 4 (.bool false) 1 rfl Try.underlying63 info4 rfl (by decide) (by omega) u5 x5_1 ((wrap64 ((wrap64 (x8_4 - 1)) - 1)) == (-1)) [.bool ((wrap64 ((wrap64 (x8_4 - 1)) - 1)) == (-1))] (fun k_ => (w.heap.size ≤ k_)) (fun _ => False) rfl rfl ?aP (fun _ hk => hk.elim) ?aF ?aO ?aB ?aS ?aL ?_; (case aP => exact rfl); (case aB => exact (Sq.bl HB)); (case aF => exact (fun k_ hk => (Nat.le_trans (below_size (Sq.bl HB)) hk))); (case aO => exact (Sq.al HO_5)); (case aS => exact (below_size (Sq.bl HB))); (case aL => have := LMc13.out; omega); intro v470 w14 ho hb hg hat; rw [← Ny469.out] at ho; replace HB := Aside0.mk (hb); have HO471 := Aside0.mk (ho); clear HO_5; clear ho hb hg hat))
         go_roundg kj4
         case measure => have := HK1.out; have := HJ4.out; omega
         case rel => exact ⟨(y469), (decide ((wrap64 ((wrap64 (x8_4 - 1)) - 1)) < 0)), (wrap64 (x7_1 + 1)), (by first | rfl | (simp; done) | (simp [*]; done)), (by first | rfl | (simp; done) | (simp [*]; done)), H', ⟨by have := HK1.out; have := HJ4.out; omega⟩, ⟨by (with_reducible repeat (first | apply Kd.R_alloc | apply Kd.R_drewN | apply Kd.R_drew)); exact HO471.out⟩, ⟨Sq.bl HB⟩⟩
       ·replace c9 := Bool.eq_false_iff.mpr c9
        subst c9
        have H1 : (if (wrap64 (x8_4 - 1)) = 1 then (if x5_1.length < 140737488355328 then (foliotref01_sub.l0 kj4 l0 l1 (x5_1 ++ [true]) (decide ((wrap64 (x8_4 - 1)) < 0)) (wrap64 (x7_1 + 1))) else (none)) else (if x5_1.length < 140737488355328 then (foliotref01_sub.l0 kj4 l0 l1 (x5_1 ++ [((wrap64 (x8_4 - 1)) == (-1))]) (decide ((wrap64 (x8_4 - 1)) < 0)) (wrap64 (x7_1 + 1))) else (none))) = some r := by rw [if_neg (show ¬ (false = true) by decide)] at H; exact H
        clear H
        have H := H1
        clear H1
        by_cases c15 : (wrap64 (x8_4 - 1)) = 1
        ·rw [if_pos c15] at H
         have c15b0 : ((wrap64 (x8_4 - 1)) == 1) = true := beq_iff_eq.mpr c15
         have c15b1 : ((wrap64 (x8_4 - 1)) != 1) = false := bne_eq_false_iff_eq.mpr c15
         clear c15
         replace H := Sq.ifs H
         obtain ⟨c16, H⟩ := H
         have LMc16 := Aside0.mk c16
         clear c16
         obtain ⟨y472, hy472⟩ : ∃ y_ : List Bool, y_ = (x5_1 ++ [true]) := ⟨_, rfl⟩
         (first | (replace H := Sq.ny hy472 H; (try dsimp -simprocs only at H)) | rw [← hy472] at H | skip)
         have Ny472 := Aside0.mk hy472
         clear hy472
         have H' := Aside0.mk H
         clear H
         go_wp2_with (first | ((with_reducible refine gate_callee (f := 175) rfl ?_); refine Sq.gl (some 22) Try.func175 #[.slice A1 l1.length c1, .int .i64 x7_1] ?_; (with_reducible refine (foliotref01_at.calls _ _ l1 x7_1 true _ ?side1 ?side2 A7.out).mono ?_); (case side1 => exact Sq.ca (Kd.C_below HR1.out HB.out)); (case side2 => exact HC1.out); rintro e w' ⟨rfl, ⟨nd, rfl⟩⟩; refine ⟨_, rfl, ?_⟩) | ((with_reducible refine gate_builtin (b := .append) (xs := #[.tmp 28, .tmp 35]) rfl ?_); at_builtin; refine Kd.R_append Kd.bool (w0 := w) w.heap.size rfl (.tmp 28) (.tmp 35) 63 4 (.bool false) 1 rfl Try.underlying63 info4 rfl (by decide) (by omega) u5 x5_1 true [.bool true] (fun k_ => (w.heap.size ≤ k_)) (fun _ => False) rfl rfl ?aP (fun _ hk => hk.elim) ?aF ?aO ?aB ?aS ?aL ?_; (case aP => exact rfl); (case aB => exact (Sq.bl HB)); (case aF => exact (fun k_ hk => (Nat.le_trans (below_size (Sq.bl HB)) hk))); (case aO => exact (Sq.al HO_5)); (case aS => exact (below_size (Sq.bl HB))); (case aL => have := LMc16.out; omega); intro v473 w17 ho hb hg hat; rw [← Ny472.out] at ho; replace HB := Aside0.mk (hb); have HO474 := Aside0.mk (ho); clear HO_5; clear ho hb hg hat))
         go_roundg kj4
         case measure => have := HK1.out; have := HJ4.out; omega
         case rel => exact ⟨(y472), (decide ((wrap64 (x8_4 - 1)) < 0)), (wrap64 (x7_1 + 1)), (by first | rfl | (simp; done) | (simp [*]; done)), (by first | rfl | (simp; done) | (simp [*]; done)), H', ⟨by have := HK1.out; have := HJ4.out; omega⟩, ⟨by (with_reducible repeat (first | apply Kd.R_alloc | apply Kd.R_drewN | apply Kd.R_drew)); exact HO474.out⟩, ⟨Sq.bl HB⟩⟩
        ·rw [if_neg c15] at H
         have c15b0 : ((wrap64 (x8_4 - 1)) == 1) = false := beq_eq_false_iff_ne.mpr c15
         have c15b1 : ((wrap64 (x8_4 - 1)) != 1) = true := bne_iff_ne.mpr c15
         replace H := Sq.ifs H
         obtain ⟨c18, H⟩ := H
         have LMc18 := Aside0.mk c18
         clear c18
         obtain ⟨y475, hy475⟩ : ∃ y_ : List Bool, y_ = (x5_1 ++ [((wrap64 (x8_4 - 1)) == (-1))]) := ⟨_, rfl⟩
         (first | (replace H := Sq.ny hy475 H; (try dsimp -simprocs only at H)) | rw [← hy475] at H | skip)
         have Ny475 := Aside0.mk hy475
         clear hy475
         have H' := Aside0.mk H
         clear H
         go_wp2_with (first | ((with_reducible refine gate_callee (f := 175) rfl ?_); refine Sq.gl (some 22) Try.func175 #[.slice A1 l1.length c1, .int .i64 x7_1] ?_; (with_reducible refine (foliotref01_at.calls _ _ l1 x7_1 true _ ?side1 ?side2 A7.out).mono ?_); (case side1 => exact Sq.ca (Kd.C_below HR1.out HB.out)); (case side2 => exact HC1.out); rintro e w' ⟨rfl, ⟨nd, rfl⟩⟩; refine ⟨_, rfl, ?_⟩) | ((with_reducible refine gate_builtin (b := .append) (xs := #[.tmp 28, .tmp 35]) rfl ?_); at_builtin; refine Kd.R_append Kd.bool (w0 := w) w.heap.size rfl (.tmp 28) (.tmp 35) 63 4 (.bool false) 1 rfl Try.underlying63 info4 rfl (by decide) (by omega) u5 x5_1 ((wrap64 (x8_4 - 1)) == (-1)) [.bool ((wrap64 (x8_4 - 1)) == (-1))] (fun k_ => (w.heap.size ≤ k_)) (fun _ => False) rfl rfl ?aP (fun _ hk => hk.elim) ?aF ?aO ?aB ?aS ?aL ?_; (case aP => exact rfl); (case aB => exact (Sq.bl HB)); (case aF => exact (fun k_ hk => (Nat.le_trans (below_size (Sq.bl HB)) hk))); (case aO => exact (Sq.al HO_5)); (case aS => exact (below_size (Sq.bl HB))); (case aL => have := LMc18.out; omega); intro v476 w19 ho hb hg hat; rw [← Ny475.out] at ho; replace HB := Aside0.mk (hb); have HO477 := Aside0.mk (ho); clear HO_5; clear ho hb hg hat))
         go_roundg kj4
         case measure => have := HK1.out; have := HJ4.out; omega
         case rel => exact ⟨(y475), (decide ((wrap64 (x8_4 - 1)) < 0)), (wrap64 (x7_1 + 1)), (by first | rfl | (simp; done) | (simp [*]; done)), (by first | rfl | (simp; done) | (simp [*]; done)), H', ⟨by have := HK1.out; have := HJ4.out; omega⟩, ⟨by (with_reducible repeat (first | apply Kd.R_alloc | apply Kd.R_drewN | apply Kd.R_drew)); exact HO477.out⟩, ⟨Sq.bl HB⟩⟩
      ·replace c8 := Bool.eq_false_iff.mpr c8
       subst c8
       have H1 : (if x6_1 = true then (if (wrap64 (x8_4 - 1)) = 1 then (if x5_1.length < 140737488355328 then (foliotref01_sub.l0 kj4 l0 l1 (x5_1 ++ [true]) (decide ((wrap64 (x8_4 - 1)) < 0)) (wrap64 (x7_1 + 1))) else (none)) else (if x5_1.length < 140737488355328 then (foliotref01_sub.l0 kj4 l0 l1 (x5_1 ++ [((wrap64 (x8_4 - 1)) == (-1))]) (decide ((wrap64 (x8_4 - 1)) < 0)) (wrap64 (x7_1 + 1))) else (none))) else (if x8_4 = 1 then (if x5_1.length < 140737488355328 then (foliotref01_sub.l0 kj4 l0 l1 (x5_1 ++ [true]) (decide (x8_4 < 0)) (wrap64 (x7_1 + 1))) else (none)) else (if x5_1.length < 140737488355328 then (foliotref01_sub.l0 kj4 l0 l1 (x5_1 ++ [(x8_4 == (-1))]) (decide (x8_4 < 0)) (wrap64 (x7_1 + 1))) else (none)))) = some r := by rw [if_neg (show ¬ (false = true) by decide)] at H; exact H
       clear H
       have H := H1
       clear H1
       by_cases c20 : x6_1 = true
       ·subst c20
        have H1 : (if (wrap64 (x8_4 - 1)) = 1 then (if x5_1.length < 140737488355328 then (foliotref01_sub.l0 kj4 l0 l1 (x5_1 ++ [true]) (decide ((wrap64 (x8_4 - 1)) < 0)) (wrap64 (x7_1 + 1))) else (none)) else (if x5_1.length < 140737488355328 then (foliotref01_sub.l0 kj4 l0 l1 (x5_1 ++ [((wrap64 (x8_4 - 1)) == (-1))]) (decide ((wrap64 (x8_4 - 1)) < 0)) (wrap64 (x7_1 + 1))) else (none))) = some r := by rw [if_pos rfl] at H; exact H
        clear H
        have H := H1
        clear H1
        by_cases c21 : (wrap64 (x8_4 - 1)) = 1
        ·rw [if_pos c21] at H
         have c21b0 : ((wrap64 (x8_4 - 1)) == 1) = true := beq_iff_eq.mpr c21
         have c21b1 : ((wrap64 (x8_4 - 1)) != 1) = false := bne_eq_false_iff_eq.mpr c21
         clear c21
         replace H := Sq.ifs H
         obtain ⟨c22, H⟩ := H
         have LMc22 := Aside0.mk c22
         clear c22
         obtain ⟨y478, hy478⟩ : ∃ y_ : List Bool, y_ = (x5_1 ++ [true]) := ⟨_, rfl⟩
         (first | (replace H := Sq.ny hy478 H; (try dsimp -simprocs only at H)) | rw [← hy478] at H | skip)
         have Ny478 := Aside0.mk hy478
         clear hy478
         have H' := Aside0.mk H
         clear H
         go_wp2_with (first | ((with_reducible refine gate_callee (f := 175) rfl ?_); refine Sq.gl (some 22) Try.func175 #[.slice A1 l1.length c1, .int .i64 x7_1] ?_; (with_reducible refine (foliotref01_at.calls _ _ l1 x7_1 false _ ?side1 ?side2 A7.out).mono ?_); (case side1 => exact Sq.ca (Kd.C_below HR1.out HB.out)); (case side2 => exact HC1.out); rintro e w' ⟨rfl, ⟨nd, rfl⟩⟩; refine ⟨_, rfl, ?_⟩) | ((with_reducible refine gate_builtin (b := .append) (xs := #[.tmp 28, .tmp 35]) rfl ?_); at_builtin; refine Kd.R_append Kd.bool (w0 := w) w.heap.size rfl (.tmp 28) (.tmp 35) 63 4 (.bool false) 1 rfl Try.underlying63 info4 rfl (by decide) (by omega) u5 x5_1 true [.bool true] (fun k_ => (w.heap.size ≤ k_)) (fun _ => False) rfl rfl ?aP (fun _ hk => hk.elim) ?aF ?aO ?aB ?aS ?aL ?_; (case aP => exact rfl); (case aB => exact (Sq.bl HB)); (case aF => exact (fun k_ hk => (Nat.le_trans (below_size (Sq.bl HB)) hk))); (case aO => exact (Sq.al HO_5)); (case aS => exact (below_size (Sq.bl HB))); (case aL => have := LMc22.out; omega); intro v479 w23 ho hb hg hat; rw [← Ny478.out] at ho; replace HB := Aside0.mk (hb); have HO480 := Aside0.mk (ho); clear HO_5; clear ho hb hg hat))
         go_roundg kj4
         case measure => have := HK1.out; have := HJ4.out; omega
         case rel => exact ⟨(y478), (decide ((wrap64 (x8_4 - 1)) < 0)), (wrap64 (x7_1 + 1)), (by first | rfl | (simp; done) | (simp [*]; done)), (by first | rfl | (simp; done) | (simp [*]; done)), H', ⟨by have := HK1.out; have := HJ4.out; omega⟩, ⟨by (with_reducible repeat (first | apply Kd.R_alloc | apply Kd.R_drewN | apply Kd.R_drew)); exact HO480.out⟩, ⟨Sq.bl HB⟩⟩
        ·rw [if_neg c21] at H
         have c21b0 : ((wrap64 (x8_4 - 1)) == 1) = false := beq_eq_false_iff_ne.mpr c21
         have c21b1 : ((wrap64 (x8_4 - 1)) != 1) = true := bne_iff_ne.mpr c21
         replace H := Sq.ifs H
         obtain ⟨c24, H⟩ := H
         have LMc24 := Aside0.mk c24
         clear c24
         obtain ⟨y481, hy481⟩ : ∃ y_ : List Bool, y_ = (x5_1 ++ [((wrap64 (x8_4 - 1)) == (-1))]) := ⟨_, rfl⟩
         (first | (replace H := Sq.ny hy481 H; (try dsimp -simprocs only at H)) | rw [← hy481] at H | skip)
         have Ny481 := Aside0.mk hy481
         clear hy481
         have H' := Aside0.mk H
         clear H
         go_wp2_with (first | ((with_reducible refine gate_callee (f := 175) rfl ?_); refine Sq.gl (some 22) Try.func175 #[.slice A1 l1.length c1, .int .i64 x7_1] ?_; (with_reducible refine (foliotref01_at.calls _ _ l1 x7_1 false _ ?side1 ?side2 A7.out).mono ?_); (case side1 => exact Sq.ca (Kd.C_below HR1.out HB.out)); (case side2 => exact HC1.out); rintro e w' ⟨rfl, ⟨nd, rfl⟩⟩; refine ⟨_, rfl, ?_⟩) | ((with_reducible refine gate_builtin (b := .append) (xs := #[.tmp 28, .tmp 35]) rfl ?_); at_builtin; refine Kd.R_append Kd.bool (w0 := w) w.heap.size rfl (.tmp 28) (.tmp 35) 63 4 (.bool false) 1 rfl Try.underlying63 info4 rfl (by decide) (by omega) u5 x5_1 ((wrap64 (x8_4 - 1)) == (-1)) [.bool ((wrap64 (x8_4 - 1)) == (-1))] (fun k_ => (w.heap.size ≤ k_)) (fun _ => False) rfl rfl ?aP (fun _ hk => hk.elim) ?aF ?aO ?aB ?aS ?aL ?_; (case aP => exact rfl); (case aB => exact (Sq.bl HB)); (case aF => exact (fun k_ hk => (Nat.le_trans (below_size (Sq.bl HB)) hk))); (case aO => exact (Sq.al HO_5)); (case aS => exact (below_size (Sq.bl HB))); (case aL => have := LMc24.out; omega); intro v482 w25 ho hb hg hat; rw [← Ny481.out] at ho; replace HB := Aside0.mk (hb); have HO483 := Aside0.mk (ho); clear HO_5; clear ho hb hg hat))
         go_roundg kj4
         case measure => have := HK1.out; have := HJ4.out; omega
         case rel => exact ⟨(y481), (decide ((wrap64 (x8_4 - 1)) < 0)), (wrap64 (x7_1 + 1)), (by first | rfl | (simp; done) | (simp [*]; done)), (by first | rfl | (simp; done) | (simp [*]; done)), H', ⟨by have := HK1.out; have := HJ4.out; omega⟩, ⟨by (with_reducible repeat (first | apply Kd.R_alloc | apply Kd.R_drewN | apply Kd.R_drew)); exact HO483.out⟩, ⟨Sq.bl HB⟩⟩
       ·replace c20 := Bool.eq_false_iff.mpr c20
        subst c20
        have H1 : (if x8_4 = 1 then (if x5_1.length < 140737488355328 then (foliotref01_sub.l0 kj4 l0 l1 (x5_1 ++ [true]) (decide (x8_4 < 0)) (wrap64 (x7_1 + 1))) else (none)) else (if x5_1.length < 140737488355328 then (foliotref01_sub.l0 kj4 l0 l1 (x5_1 ++ [(x8_4 == (-1))]) (decide (x8_4 < 0)) (wrap64 (x7_1 + 1))) else (none))) = some r := by rw [if_neg (show ¬ (false = true) by decide)] at H; exact H
        clear H
        have H := H1
        clear H1
        by_cases c26 : x8_4 = 1
        ·rw [if_pos c26] at H
         have c26b0 : (x8_4 == 1) = true := beq_iff_eq.mpr c26
         have c26b1 : (x8_4 != 1) = false := bne_eq_false_iff_eq.mpr c26
         clear c26
         replace H := Sq.ifs H
         obtain ⟨c27, H⟩ := H
         have LMc27 := Aside0.mk c27
         clear c27
         obtain ⟨y484, hy484⟩ : ∃ y_ : List Bool, y_ = (x5_1 ++ [true]) := ⟨_, rfl⟩
         (first | (replace H := Sq.ny hy484 H; (try dsimp -simprocs only at H)) | rw [← hy484] at H | skip)
         have Ny484 := Aside0.mk hy484
         clear hy484
         have H' := Aside0.mk H
         clear H
         go_wp2_with (first | ((with_reducible refine gate_callee (f := 175) rfl ?_); refine Sq.gl (some 22) Try.func175 #[.slice A1 l1.length c1, .int .i64 x7_1] ?_; (with_reducible refine (foliotref01_at.calls _ _ l1 x7_1 false _ ?side1 ?side2 A7.out).mono ?_); (case side1 => exact Sq.ca (Kd.C_below HR1.out HB.out)); (case side2 => exact HC1.out); rintro e w' ⟨rfl, ⟨nd, rfl⟩⟩; refine ⟨_, rfl, ?_⟩) | ((with_reducible refine gate_builtin (b := .append) (xs := #[.tmp 28, .tmp 35]) rfl ?_); at_builtin; refine Kd.R_append Kd.bool (w0 := w) w.heap.size rfl (.tmp 28) (.tmp 35) 63 4 (.bool false) 1 rfl Try.underlying63 info4 rfl (by decide) (by omega) u5 x5_1 true [.bool true] (fun k_ => (w.heap.size ≤ k_)) (fun _ => False) rfl rfl ?aP (fun _ hk => hk.elim) ?aF ?aO ?aB ?aS ?aL ?_; (case aP => exact rfl); (case aB => exact (Sq.bl HB)); (case aF => exact (fun k_ hk => (Nat.le_trans (below_size (Sq.bl HB)) hk))); (case aO => exact (Sq.al HO_5)); (case aS => exact (below_size (Sq.bl HB))); (case aL => have := LMc27.out; omega); intro v485 w28 ho hb hg hat; rw [← Ny484.out] at ho; replace HB := Aside0.mk (hb); have HO486 := Aside0.mk (ho); clear HO_5; clear ho hb hg hat))
         go_roundg kj4
         case measure => have := HK1.out; have := HJ4.out; omega
         case rel => exact ⟨(y484), (decide (x8_4 < 0)), (wrap64 (x7_1 + 1)), (by first | rfl | (simp; done) | (simp [*]; done)), (by first | rfl | (simp; done) | (simp [*]; done)), H', ⟨by have := HK1.out; have := HJ4.out; omega⟩, ⟨by (with_reducible repeat (first | apply Kd.R_alloc | apply Kd.R_drewN | apply Kd.R_drew)); exact HO486.out⟩, ⟨Sq.bl HB⟩⟩
        ·rw [if_neg c26] at H
         have c26b0 : (x8_4 == 1) = false := beq_eq_false_iff_ne.mpr c26
         have c26b1 : (x8_4 != 1) = true := bne_iff_ne.mpr c26
         replace H := Sq.ifs H
         obtain ⟨c29, H⟩ := H
         have LMc29 := Aside0.mk c29
         clear c29
         obtain ⟨y487, hy487⟩ : ∃ y_ : List Bool, y_ = (x5_1 ++ [(x8_4 == (-1))]) := ⟨_, rfl⟩
         (first | (replace H := Sq.ny hy487 H; (try dsimp -simprocs only at H)) | rw [← hy487] at H | skip)
         have Ny487 := Aside0.mk hy487
         clear hy487
         have H' := Aside0.mk H
         clear H
         go_wp2_with (first | ((with_reducible refine gate_callee (f := 175) rfl ?_); refine Sq.gl (some 22) Try.func175 #[.slice A1 l1.length c1, .int .i64 x7_1] ?_; (with_reducible refine (foliotref01_at.calls _ _ l1 x7_1 false _ ?side1 ?side2 A7.out).mono ?_); (case side1 => exact Sq.ca (Kd.C_below HR1.out HB.out)); (case side2 => exact HC1.out); rintro e w' ⟨rfl, ⟨nd, rfl⟩⟩; refine ⟨_, rfl, ?_⟩) | ((with_reducible refine gate_builtin (b := .append) (xs := #[.tmp 28, .tmp 35]) rfl ?_); at_builtin; refine Kd.R_append Kd.bool (w0 := w) w.heap.size rfl (.tmp 28) (.tmp 35) 63 4 (.bool false) 1 rfl Try.underlying63 info4 rfl (by decide) (by omega) u5 x5_1 (x8_4 == (-1)) [.bool (x8_4 == (-1))] (fun k_ => (w.heap.size ≤ k_)) (fun _ => False) rfl rfl ?aP (fun _ hk => hk.elim) ?aF ?aO ?aB ?aS ?aL ?_; (case aP => exact rfl); (case aB => exact (Sq.bl HB)); (case aF => exact (fun k_ hk => (Nat.le_trans (below_size (Sq.bl HB)) hk))); (case aO => exact (Sq.al HO_5)); (case aS => exact (below_size (Sq.bl HB))); (case aL => have := LMc29.out; omega); intro v488 w30 ho hb hg hat; rw [← Ny487.out] at ho; replace HB := Aside0.mk (hb); have HO489 := Aside0.mk (ho); clear HO_5; clear ho hb hg hat))
         go_roundg kj4
         case measure => have := HK1.out; have := HJ4.out; omega
         case rel => exact ⟨(y487), (decide (x8_4 < 0)), (wrap64 (x7_1 + 1)), (by first | rfl | (simp; done) | (simp [*]; done)), (by first | rfl | (simp; done) | (simp [*]; done)), H', ⟨by have := HK1.out; have := HJ4.out; omega⟩, ⟨by (with_reducible repeat (first | apply Kd.R_alloc | apply Kd.R_drewN | apply Kd.R_drew)); exact HO489.out⟩, ⟨Sq.bl HB⟩⟩
   ·rw [if_neg c3] at H
    have c3b0 : decide (x7_1 < (l0.length : Int)) = false := decide_eq_false c3
    clear c3
    replace H := Sq.bd H
    obtain ⟨t461, A31, H⟩ := H
    (try dsimp -simprocs only at H)
    obtain rfl := Option.some.inj H
    obtain ⟨Ao32, co32, eo32⟩ := Kd.R_slice HO_5.out
    subst eo32
    go_wp2_with (first | ((with_reducible refine gate_callee (f := 173) rfl ?_); refine Sq.gl (some 40) Try.func173 #[.slice Ao32 x5_1.length co32] ?_; (with_reducible refine (foliotref01_cut.calls k1 (fun k_ => some k_ = (.slice Ao32 x5_1.length co32 : Value).ownBlock) _ _ x5_1 t461 _ ?side1 A31.out).mono ?_); (case side1 => exact Kd.R_V (Kd.R_tight rfl (HO_5.out))); rintro e w33 ⟨v462, rfl, ho0, hb⟩; refine ⟨_, rfl, ?_⟩; have HO463 := Aside0.mk (Kd.V_lower (Kd.V_mono (ok' := fun k_ => (w.heap.size ≤ k_)) ho0 (fun k_ hk_ => Or.elim hk_ (fun hs_ => ((HO_5.out).1 k_ hs_.symm)) (fun hn_ => (Nat.le_trans (below_size (Sq.bl HB)) hn_)))) (below_size (Sq.bl HB))); replace HO_5 := Aside0.mk (Kd.R_below (Sq.al HO_5) hb); replace HB := Sq.bs HB hb; (try clear hb); (try clear hb2); (try clear hk); (try clear hi); (try clear ho0)))
    go_ret
    exact ⟨_, by first | rfl | (simp [errW_none, errW_some] <;> rfl) | (simp [*, errW_none, errW_some] <;> rfl), by (with_reducible repeat (first | apply Kd.V_alloc | apply Kd.V_drewN | apply Kd.V_drew)); exact HO463.out, Sq.bl HB⟩
def foliotref01_Trim.l0 : Nat → List Int → Int → Option (List Int)
 | 0, _, _ => none
 | k + 1, x0, x3 => if x3 > 0 then (if 0 ≤ (wrap64 (x3 - 1)) then (if (wrap64 (x3 - 1)) < (x0.length : Int) then (if (rd x0 (wrap64 (x3 - 1))) = 0 then (foliotref01_Trim.l0 k x0 (wrap64 (x3 - 1))) else ((some (([] : List Int) : List Int)).bind fun y504 => (if 0 ≤ x3 then (if x3 ≤ (x0.length : Int) then (if y504.length + (x0.take (x3 : Int).toNat).length < 35184372088832 then (some (y504 ++ (x0.take (x3 : Int).toNat))) else (none)) else (none)) else (none)))) else (none)) else (none)) else ((some (([] : List Int) : List Int)).bind fun y511 => (if 0 ≤ x3 then (if x3 ≤ (x0.length : Int) then (if y511.length + (x0.take (x3 : Int).toNat).length < 35184372088832 then (some (y511 ++ (x0.take (x3 : Int).toNat))) else (none)) else (none)) else (none)))
def foliotref01_Trim.f (k : Nat) (l0 : List Int) : Option (List Int) := foliotref01_Trim.l0 k l0 (l0.length : Int)
set_option maxHeartbeats 8000000 in
set_option maxRecDepth 100000 in
theorem foliotref01_Trim.calls (k : Nat) (A0 : Option Addr) (c0 : Nat) (l0 : List Int) (r : List Int) (w : World) (hr0 : Kd.C (Kd.int .u32) w A0 l0.length l0) (hc0 : l0.length ≤ c0) (h : foliotref01_Trim.f k l0 = some r) :
  Calls Try.prog 52 #[.slice A0 l0.length c0] w fun e w' => ∃ v0_ : Value, e = .returned (v0_) ∧ Kd.R (Kd.int .u32) 107 w' w.heap.size (fun _ => True) v0_ r ∧ Below w.heap.size w w' := by
 have HR0 := Aside0.mk hr0
 have HC0 := Aside0.mk hc0
 clear hr0 hc0
 have HB := Aside0.mk (Below.refl w.heap.size w)
 have H : (foliotref01_Trim.l0 k l0 (l0.length : Int)) = some r := h
 clear h
 have H' := Aside0.mk H
 clear H
 go_enter Try.func52, Try.ntmps52
 go_wp2
 go_loopg [3] k (fun kq v3 w' => ∃ (x3_1 : Int), v3 = .int .i64 x3_1 ∧ Aside0 (foliotref01_Trim.l0 kq l0 x3_1 = some r) ∧ Aside0 (kq ≤ k) ∧ Aside0 (Below w.heap.size w w'))
 case atStart => exact ⟨((l0.length : Int)), (by first | rfl | (simp; done) | (simp [*]; done)), H', ⟨Nat.le_refl _⟩, ⟨Sq.bl HB⟩⟩
 case round =>
  clear H'
  obtain ⟨x3_1, rfl, HA, HK1, HB⟩ := hrel
  cases gk with
  | zero => exact absurd HA.out (by simp [foliotref01_Trim.l0])
  | succ k1 =>
   have H := HA.out
   clear HA
   simp only [foliotref01_Trim.l0] at H
   by_cases c2 : x3_1 > 0
   ·rw [if_pos c2] at H
    have c2b0 : decide (0 < x3_1) = true := decide_eq_true c2
    clear c2
    obtain ⟨ji3, hji3⟩ : ∃ j_ : Int, (wrap64 (x3_1 - 1)) = j_ := ⟨_, rfl⟩
    (first | rw [hji3] at H | simp only [hji3] at H)
    have hji3w : (IntKind.i64.wrap (x3_1 - 1)) = ji3 := (i64_w _).trans hji3
    replace H := Sq.ifs H
    obtain ⟨c4, H⟩ := H
    have c4b0 : decide (0 ≤ (ji3)) = true := decide_eq_true c4
    clear c4
    replace H := Sq.ifs H
    obtain ⟨c5, H⟩ := H
    have c5b0 : decide ((ji3) < (l0.length : Int)) = true := decide_eq_true c5
    clear c5
    by_cases c6 : (rd l0 (ji3)) = 0
    ·rw [if_pos c6] at H
     have c6b0 : ((rd l0 (ji3)) == 0) = true := beq_iff_eq.mpr c6
     have c6b1 : ((rd l0 (ji3)) != 0) = false := bne_eq_false_iff_eq.mpr c6
     clear c6
     have H' := Aside0.mk H
     clear H
     have p503 : 0 ≤ ((ji3) : Int) := of_decide_eq_true (by first | (with_reducible assumption) | assumption)
     have q503 : (ji3) < (l0.length : Int) := of_decide_eq_true (by first | (with_reducible assumption) | assumption)
     obtain ⟨ad503, e503, hx503_0⟩ := Kd.at_int HR0.out (ji3) p503 q503
     cases e503
     replace hx503_0 := (HB.out.cell (World.block_lt_of_cell? w _ hx503_0)).trans hx503_0
     replace p503 := eq_true p503
     replace q503 := eq_true q503
     go_wp2
     go_roundg k1
     case measure => have := HK1.out; omega
     case rel => exact ⟨(ji3), (by first | rfl | (simp; done) | (simp only [← hji3] <;> (first | rfl | simp)) | (simp [*]; done)), H', ⟨by have := HK1.out; omega⟩, ⟨Sq.bl HB⟩⟩
    ·rw [if_neg c6] at H
     have c6b0 : ((rd l0 (ji3)) == 0) = false := beq_eq_false_iff_ne.mpr c6
     have c6b1 : ((rd l0 (ji3)) != 0) = true := bne_iff_ne.mpr c6
     obtain ⟨y504, hy504⟩ : ∃ y_ : List Int, y_ = (([] : List Int)) := ⟨_, rfl⟩
     (first | (replace H := Sq.ny hy504 H; (try dsimp -simprocs only at H)) | rw [← hy504] at H | skip)
     have Ny504 := Aside0.mk hy504
     clear hy504
     replace H := Sq.ifs H
     obtain ⟨c7, H⟩ := H
     have c7b0 := eq_true c7
     have c7b1 : decide (0 ≤ x3_1) = true := decide_eq_true c7
     clear c7
     replace H := Sq.ifs H
     obtain ⟨c8, H⟩ := H
     have c8b0 := eq_true c8
     have c8b1 : decide (x3_1 ≤ (l0.length : Int)) = true := decide_eq_true c8
     clear c8
     replace H := Sq.ifs H
     obtain ⟨c9, H⟩ := H
     have LMc9 := Aside0.mk c9
     clear c9
     obtain ⟨y508, hy508⟩ : ∃ y_ : List Int, y_ = (y504 ++ (l0.take (x3_1 : Int).toNat)) := ⟨_, rfl⟩
     (first | (replace H := Sq.ny hy508 H; (try dsimp -simprocs only at H)) | rw [← hy508] at H | skip)
     have Ny508 := Aside0.mk hy508
     clear hy508
     obtain rfl := Option.some.inj H
     have p503 : 0 ≤ ((ji3) : Int) := of_decide_eq_true (by first | (with_reducible assumption) | assumption)
     have q503 : (ji3) < (l0.length : Int) := of_decide_eq_true (by first | (with_reducible assumption) | assumption)
     obtain ⟨ad503, e503, hx503_0⟩ := Kd.at_int HR0.out (ji3) p503 q503
     cases e503
     replace hx503_0 := (HB.out.cell (World.block_lt_of_cell? w _ hx503_0)).trans hx503_0
     replace p503 := eq_true p503
     replace q503 := eq_true q503
     go_wp2_with (first | ((with_reducible refine gate_dst (N := 18) rfl ?_); refine Kd.R_lit (Kd.int .u32) _ 107 ?hg (N := 18) ?hd (xs := ([] : List Int)) (inner := []) (ok := fun _ => True) (okp := fun _ => True) ?hr ?hp (fun _ hk => hk) trivial (Below.refl _ _) (Nat.le_refl _) (by simp) ?_; (case hd => rfl); (case hg => rfl); (case hr => first | (go_simp; done) | (go_simp; rfl)); (case hp => exact (Reps.none _ _)); intro v505 w10 ho11 hb hg_ hnew_; clear hg_ hnew_; (first | rw [← Ny504.out] at ho11 | (simp only [Int.reduceToNat] at ho11; rw [← Ny504.out] at ho11)); have HO506 := Aside0.mk (Kd.R_lower ho11 (below_size (Sq.bl HB))); replace HB := Sq.bs HB hb; clear hb ho11; obtain ⟨i012, hi012, _, hsz12, _⟩ := info_parts info107; obtain ⟨hcut12, hA12, hC12⟩ := print_take_of (P := Try.prog) (Value.int .u32) 0 22 107 .i64 Try.underlying22 hi012 hsz12 (some ad503) c0 l0 x3_1 (of_decide_eq_true (by first | (with_reducible assumption) | assumption)) (of_decide_eq_true (by first | (with_reducible assumption) | assumption)) HC0.out; have HR507 := Aside0.mk (Kd.C_of_reads (h1 := fun _ => rfl) (hA12 _ (Kd.reads_of_C HR0.out))); have HC507 := Aside0.mk hC12; clear hA12 hC12 hi012 hsz12) | ((with_reducible refine gate_builtin (b := .append) (xs := #[.tmp 18, .tmp 21]) rfl ?_); at_builtin; refine Kd.R_append_rows (Kd.int .u32) (w0 := w) w.heap.size rfl (.tmp 18) (.tmp 21) 22 107 (.int .u32 0) 4 rfl Try.underlying22 info107 rfl (by decide) (by omega) v505 y504 (l0.take (x3_1 : Int).toNat) _ _ _ (fun _ => True) (fun _ => False) rfl rfl ?aO ?aR (fun _ _ h => h) (fun _ h => h.elim) ?aF ?aB ?aS ?aL ?_; (case aR => first | (have h_ := Kd.C_below HR507.out HB.out; rw [(show (l0.take (x3_1 : Int).toNat).length = x3_1.toNat from (by rw [List.length_take]; have h_ : (x3_1 : Int) ≤ (l0.length : Int) := of_decide_eq_true (by first | (with_reducible assumption) | assumption); omega))] at h_; exact h_) | (rw [← show (l0.take (x3_1 : Int).toNat).length = x3_1.toNat from (by rw [List.length_take]; have h_ : (x3_1 : Int) ≤ (l0.length : Int) := of_decide_eq_true (by first | (with_reducible assumption) | assumption); omega)]; exact Sq.ca (Kd.C_below HR507.out HB.out)) | (exact Sq.ca (Kd.C_below HR507.out HB.out))); (case aB => exact (Sq.bl HB)); (case aF => exact (fun _ _ => trivial)); (case aO => exact (Sq.al HO506)); (case aS => exact (below_size (Sq.bl HB))); (case aL => have := LMc9.out; have hlx_ := (show (l0.take (x3_1 : Int).toNat).length = x3_1.toNat from (by rw [List.length_take]; have h_ : (x3_1 : Int) ≤ (l0.length : Int) := of_decide_eq_true (by first | (with_reducible assumption) | assumption); omega)); omega); intro v509 w13 ho hb hg hat; rw [← Ny508.out] at ho; replace HB := Aside0.mk (hb); have HO510 := Aside0.mk (ho); clear HO506; clear ho hb hg hat))
     go_ret
     exact ⟨_, by first | rfl | (simp [errW_none, errW_some] <;> rfl) | (simp only [← hji3]; first | rfl | (simp [errW_none, errW_some] <;> rfl)) | (simp [*, errW_none, errW_some] <;> rfl), by (with_reducible repeat (first | apply Kd.R_alloc | apply Kd.R_drewN | apply Kd.R_drew)); exact HO510.out, Sq.bl HB⟩
   ·rw [if_neg c2] at H
    have c2b0 : decide (0 < x3_1) = false := decide_eq_false c2
    clear c2
    obtain ⟨y511, hy511⟩ : ∃ y_ : List Int, y_ = (([] : List Int)) := ⟨_, rfl⟩
    (first | (replace H := Sq.ny hy511 H; (try dsimp -simprocs only at H)) | rw [← hy511] at H | skip)
    have Ny511 := Aside0.mk hy511
    clear hy511
    replace H := Sq.ifs H
    obtain ⟨c14, H⟩ := H
    have c14b0 := eq_true c14
    have c14b1 : decide (0 ≤ x3_1) = true := decide_eq_true c14
    clear c14
    replace H := Sq.ifs H
    obtain ⟨c15, H⟩ := H
    have c15b0 := eq_true c15
    have c15b1 : decide (x3_1 ≤ (l0.length : Int)) = true := decide_eq_true c15
    clear c15
    replace H := Sq.ifs H
    obtain ⟨c16, H⟩ := H
    have LMc16 := Aside0.mk c16
    clear c16
    obtain ⟨y515, hy515⟩ : ∃ y_ : List Int, y_ = (y511 ++ (l0.take (x3_1 : Int).toNat)) := ⟨_, rfl⟩
    (first | (replace H := Sq.ny hy515 H; (try dsimp -simprocs only at H)) | rw [← hy515] at H | skip)
    have Ny515 := Aside0.mk hy515
    clear hy515
    obtain rfl := Option.some.inj H
    go_wp2_with (first | ((with_reducible refine gate_dst (N := 18) rfl ?_); refine Kd.R_lit (Kd.int .u32) _ 107 ?hg (N := 18) ?hd (xs := ([] : List Int)) (inner := []) (ok := fun _ => True) (okp := fun _ => True) ?hr ?hp (fun _ hk => hk) trivial (Below.refl _ _) (Nat.le_refl _) (by simp) ?_; (case hd => rfl); (case hg => rfl); (case hr => first | (go_simp; done) | (go_simp; rfl)); (case hp => exact (Reps.none _ _)); intro v512 w17 ho18 hb hg_ hnew_; clear hg_ hnew_; (first | rw [← Ny511.out] at ho18 | (simp only [Int.reduceToNat] at ho18; rw [← Ny511.out] at ho18)); have HO513 := Aside0.mk (Kd.R_lower ho18 (below_size (Sq.bl HB))); replace HB := Sq.bs HB hb; clear hb ho18; obtain ⟨i019, hi019, _, hsz19, _⟩ := info_parts info107; obtain ⟨hcut19, hA19, hC19⟩ := print_take_of (P := Try.prog) (Value.int .u32) 0 22 107 .i64 Try.underlying22 hi019 hsz19 A0 c0 l0 x3_1 (of_decide_eq_true (by first | (with_reducible assumption) | assumption)) (of_decide_eq_true (by first | (with_reducible assumption) | assumption)) HC0.out; have HR514 := Aside0.mk (Kd.C_of_reads (h1 := fun _ => rfl) (hA19 _ (Kd.reads_of_C HR0.out))); have HC514 := Aside0.mk hC19; clear hA19 hC19 hi019 hsz19) | ((with_reducible refine gate_builtin (b := .append) (xs := #[.tmp 18, .tmp 21]) rfl ?_); at_builtin; refine Kd.R_append_rows (Kd.int .u32) (w0 := w) w.heap.size rfl (.tmp 18) (.tmp 21) 22 107 (.int .u32 0) 4 rfl Try.underlying22 info107 rfl (by decide) (by omega) v512 y511 (l0.take (x3_1 : Int).toNat) _ _ _ (fun _ => True) (fun _ => False) rfl rfl ?aO ?aR (fun _ _ h => h) (fun _ h => h.elim) ?aF ?aB ?aS ?aL ?_; (case aR => first | (have h_ := Kd.C_below HR514.out HB.out; rw [(show (l0.take (x3_1 : Int).toNat).length = x3_1.toNat from (by rw [List.length_take]; have h_ : (x3_1 : Int) ≤ (l0.length : Int) := of_decide_eq_true (by first | (with_reducible assumption) | assumption); omega))] at h_; exact h_) | (rw [← show (l0.take (x3_1 : Int).toNat).length = x3_1.toNat from (by rw [List.length_take]; have h_ : (x3_1 : Int) ≤ (l0.length : Int) := of_decide_eq_true (by first | (with_reducible assumption) | assumption); omega)]; exact Sq.ca (Kd.C_below HR514.out HB.out)) | (exact Sq.ca (Kd.C_below HR514.out HB.out))); (case aB => exact (Sq.bl HB)); (case aF => exact (fun _ _ => trivial)); (case aO => exact (Sq.al HO513)); (case aS => exact (below_size (Sq.bl HB))); (case aL => have := LMc16.out; have hlx_ := (show (l0.take (x3_1 : Int).toNat).length = x3_1.toNat from (by rw [List.length_take]; have h_ : (x3_1 : Int) ≤ (l0.length : Int) := of_decide_eq_true (by first | (with_reducible assumption) | assumption); omega)); omega); intro v516 w20 ho hb hg hat; rw [← Ny515.out] at ho; replace HB := Aside0.mk (hb); have HO517 := Aside0.mk (ho); clear HO513; clear ho hb hg hat))
    go_ret
    exact ⟨_, by first | rfl | (simp [errW_none, errW_some] <;> rfl) | (simp [*, errW_none, errW_some] <;> rfl), by (with_reducible repeat (first | apply Kd.R_alloc | apply Kd.R_drewN | apply Kd.R_drew)); exact HO517.out, Sq.bl HB⟩
def foliotref01_limbs.f (k : Nat) (a0 : Int) : Option (List Int) := (foliotref01_Trim.f k (([(a0) % 4294967296, (a0 / 4294967296) % 4294967296] : List Int))).bind fun t521 => (some t521)
set_option maxHeartbeats 8000000 in
set_option maxRecDepth 100000 in
theorem foliotref01_limbs.calls (k : Nat) (a0 : Int) (r : List Int) (w : World) (h : foliotref01_limbs.f k a0 = some r) :
  Calls Try.prog 140 #[.int .u64 a0] w fun e w' => ∃ v0_ : Value, e = .returned (v0_) ∧ Kd.R (Kd.int .u32) 107 w' w.heap.size (fun _ => True) v0_ r ∧ Below w.heap.size w w' := by
 have HB := Aside0.mk (Below.refl w.heap.size w)
 have H : ((foliotref01_Trim.f k (([(a0) % 4294967296, (a0 / 4294967296) % 4294967296] : List Int))).bind fun t521 => (some t521)) = some r := h
 clear h
 obtain ⟨y518, hy518⟩ : ∃ y_ : List Int, y_ = (([(a0) % 4294967296, (a0 / 4294967296) % 4294967296] : List Int)) := ⟨_, rfl⟩
 (first | (replace H := Sq.ny hy518 H; (try dsimp -simprocs only at H)) | rw [← hy518] at H | skip)
 have Ny518 := Aside0.mk hy518
 clear hy518
 replace H := Sq.bd H
 obtain ⟨t521, A2, H⟩ := H
 (try dsimp -simprocs only at H)
 obtain rfl := Option.some.inj H
 go_enter Try.func140, Try.ntmps140
 go_wp2_with (first | ((with_reducible refine gate_dst (N := 8) rfl ?_); refine Kd.R_lit (Kd.int .u32) _ 107 ?hg (N := 8) ?hd (xs := ([(a0) % 4294967296, (a0 / 4294967296) % 4294967296] : List Int)) (inner := [.int .u32 ((a0) % 4294967296), .int .u32 ((a0 / 4294967296) % 4294967296)]) (ok := fun _ => True) (okp := fun _ => True) ?hr ?hp (fun _ hk => hk) trivial (Below.refl _ _) (Nat.le_refl _) (by simp) ?_; (case hd => rfl); (case hg => rfl); (case hr => first | (go_simp; done) | (go_simp; rfl)); (case hp => exact (Reps.one (show Kd.M (Kd.int .u32) _ _ _ ((a0) % 4294967296) [.int .u32 ((a0) % 4294967296)] from rfl) (Reps.one (show Kd.M (Kd.int .u32) _ _ _ ((a0 / 4294967296) % 4294967296) [.int .u32 ((a0 / 4294967296) % 4294967296)] from rfl) (Reps.none _ _)))); intro v519 w3 ho4 hb hg_ hnew_; clear hg_ hnew_; (first | rw [← Ny518.out] at ho4 | (simp only [Int.reduceToNat] at ho4; rw [← Ny518.out] at ho4)); have HO520 := Aside0.mk (Kd.R_lower ho4 (below_size (Sq.bl HB))); replace HB := Sq.bs HB hb; clear hb ho4; obtain ⟨Ao5, co5, eo5⟩ := Kd.R_slice HO520.out; subst eo5) | ((with_reducible refine gate_callee (f := 52) rfl ?_); refine Sq.gl (some 9) Try.func52 #[.slice Ao5 y518.length co5] ?_; (with_reducible refine (foliotref01_Trim.calls k _ _ y518 t521 _ ?side1 ?side2 A2.out).mono ?_); (case side1 => exact Sq.ca (Kd.R_reads' HO520.out).2.2); (case side2 => exact (Kd.R_reads' HO520.out).2.1); rintro e w6 ⟨v522, rfl, ho0, hb⟩; refine ⟨_, rfl, ?_⟩; have HO523 := Aside0.mk (Kd.R_lower (Kd.R_new' ho0 (Kd.R_lt (Sq.al HO520))) (below_size (Sq.bl HB))); replace HO520 := Aside0.mk (Kd.R_elder' (Sq.al HO520) (Kd.R_base ho0) hb); replace HB := Sq.bs HB hb; (try clear hb); (try clear hb2); (try clear hk); (try clear hi); (try clear ho0)))
 go_ret
 exact ⟨_, by first | rfl | (simp [errW_none, errW_some] <;> rfl) | (simp [*, errW_none, errW_some] <;> rfl), by (with_reducible repeat (first | apply Kd.R_alloc | apply Kd.R_drewN | apply Kd.R_drew)); exact Kd.R_mono HO523.out (fun _ hk => trivial), Sq.bl HB⟩
def foliotref01_short.f (l0 : List Int) : Option (Int × Bool) := if (l0.length : Int) = 0 then (some (0, true)) else (if 0 < (l0.length : Int) then (some (IntKind.u64.wrap (rd l0 0), ((l0.length : Int) == 1))) else (none))
set_option maxHeartbeats 8000000 in
set_option maxRecDepth 100000 in
theorem foliotref01_short.calls (A0 : Option Addr) (c0 : Nat) (l0 : List Int) (r1 : Int) (r2 : Bool) (w : World) (hr0 : Kd.C (Kd.int .u32) w A0 l0.length l0) (hc0 : l0.length ≤ c0) (h : foliotref01_short.f l0 = some (r1, r2)) :
  Calls Try.prog 142 #[.slice A0 l0.length c0] w fun e w' => e = .returned (.tuple #[.int .u64 r1, .bool r2]) ∧ Drawn0 w w' := by
 have HR0 := Aside0.mk hr0
 have HC0 := Aside0.mk hc0
 clear hr0 hc0
 have H : (if (l0.length : Int) = 0 then (some (0, true)) else (if 0 < (l0.length : Int) then (some (IntKind.u64.wrap (rd l0 0), ((l0.length : Int) == 1))) else (none))) = some (r1, r2) := h
 clear h
 by_cases c2 : (l0.length : Int) = 0
 ·rw [if_pos c2] at H
  have c2b0 : ((l0.length : Int) == 0) = true := beq_iff_eq.mpr c2
  have c2b1 : ((l0.length : Int) != 0) = false := bne_eq_false_iff_eq.mpr c2
  clear c2
  simp only [Option.some.injEq, Prod.mk.injEq] at H
  obtain ⟨rfl, rfl⟩ := H
  go_enter Try.func142, Try.ntmps142
  go_wp2
  go_ret2
  exact ⟨by first | rfl | (simp; done) | (simp [*]; done), by repeat (first | exact Drawn0.refl _ | apply Drawn0.step)⟩
 ·rw [if_neg c2] at H
  have c2b0 : ((l0.length : Int) == 0) = false := beq_eq_false_iff_ne.mpr c2
  have c2b1 : ((l0.length : Int) != 0) = true := bne_iff_ne.mpr c2
  have c2b2 : ¬ (l0 = []) := fun h_ => c2 (by rw [h_]; rfl)
  replace H := Sq.ifs H
  obtain ⟨c3, H⟩ := H
  have c3b0 : decide (0 < (l0.length : Int)) = true := decide_eq_true c3
  have c3b1 : decide (0 < l0.length) = true := decide_eq_true (by omega)
  clear c3
  simp only [Option.some.injEq, Prod.mk.injEq] at H
  obtain ⟨rfl, rfl⟩ := H
  have p524 : 0 ≤ (0 : Int) := (by omega)
  have q524 : 0 < (l0.length : Int) := of_decide_eq_true (by first | (with_reducible assumption) | assumption)
  obtain ⟨ad524, e524, hx524_0⟩ := Kd.at_int HR0.out 0 p524 q524
  cases e524
  have qi524 : (0 < l0.length) = True := eq_true (by omega)
  (try rw [show ((0 : Int)).toNat = 0 from rfl] at hx524_0)
  (try rw [Addr.add_zero'] at hx524_0)
  replace p524 := eq_true p524
  replace q524 := eq_true q524
  go_enter Try.func142, Try.ntmps142
  go_wp2
  go_ret2
  exact ⟨by first | rfl | (simp; done) | (simp [*]; done), by repeat (first | exact Drawn0.refl _ | apply Drawn0.step)⟩
end Go.Proofs.Ytaclkccgjpjdjaa.N
