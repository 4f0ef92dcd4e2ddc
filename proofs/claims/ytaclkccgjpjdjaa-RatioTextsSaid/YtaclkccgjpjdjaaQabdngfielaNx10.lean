import Derived.Test.YtaclkccgjpjdjaaQemgcbmfiflNx0
import Derived.Test.YtaclkccgjpjdjaaQjpoceikpiaNx7
import Derived.Test.YtaclkccgjpjdjaaQjcimbkdfckNx8
import Derived.Test.YtaclkccgjpjdjaaQempeaoghicNx9
import Derived.Test.YtaclkccgjpjdjaaQpbgibbbgddM
namespace Go.Proofs.Ytaclkccgjpjdjaa.N
open Go.RowKit Go.Proofs.YtaclkccgjpjdjaaW.PrintWords Go.Proofs.YtaclkccgjpjdjaaW.PrintLast Go.Proofs.YtaclkccgjpjdjaaW.PrintMore
attribute [local go_sem] max2_int min2_int max_two min_two max_three min_three max_four min_four   -- for this text's walks alone
set_option linter.unusedVariables false
set_option linter.unusedSimpArgs false
mutual
def foliotref01_add.l0 : Nat → List Bool → List Bool → List Bool → Bool → Int → Option (List Bool)
 | 0, _, _, _, _, _ => none
 | k + 1, x0, x1, x5, x6, x7 => if x7 < (mx (x0.length : Int) (x1.length : Int)) then (foliotref01_add.j1 k x0 x1 x5 x6 x7 true) else (foliotref01_add.j1 k x0 x1 x5 x6 x7 x6)
def foliotref01_add.j1 : Nat → List Bool → List Bool → List Bool → Bool → Int → Bool → Option (List Bool)
 | 0, _, _, _, _, _, _ => none
 | k + 1, x0, x1, x5, x6, x7, x18 => if x18 = true then ((foliotref01_at.f x0 x7).bind fun t528 => (if t528 = true then (foliotref01_add.j2 k x0 x1 x5 x6 x7 (0 + 1)) else (foliotref01_add.j2 k x0 x1 x5 x6 x7 0))) else ((foliotref01_cut.f k x5).bind fun t525 => (some t525))
def foliotref01_add.j2 : Nat → List Bool → List Bool → List Bool → Bool → Int → Int → Option (List Bool)
 | 0, _, _, _, _, _, _ => none
 | k + 1, x0, x1, x5, x6, x7, x8 => (foliotref01_at.f x1 x7).bind fun t529 => (if t529 = true then (if x6 = true then (if x5.length < 140737488355328 then (foliotref01_add.l0 k x0 x1 (x5 ++ [((Int.tmod (wrap64 ((wrap64 (x8 + 1)) + 1)) 2) == 1)]) (decide ((wrap64 ((wrap64 (x8 + 1)) + 1)) ≥ 2)) (wrap64 (x7 + 1))) else (none)) else (if x5.length < 140737488355328 then (foliotref01_add.l0 k x0 x1 (x5 ++ [((Int.tmod (wrap64 (x8 + 1)) 2) == 1)]) (decide ((wrap64 (x8 + 1)) ≥ 2)) (wrap64 (x7 + 1))) else (none))) else (if x6 = true then (if x5.length < 140737488355328 then (foliotref01_add.l0 k x0 x1 (x5 ++ [((Int.tmod (wrap64 (x8 + 1)) 2) == 1)]) (decide ((wrap64 (x8 + 1)) ≥ 2)) (wrap64 (x7 + 1))) else (none)) else (if x5.length < 140737488355328 then (foliotref01_add.l0 k x0 x1 (x5 ++ [((Int.tmod x8 2) == 1)]) (decide (x8 ≥ 2)) (wrap64 (x7 + 1))) else (none))))
end
def foliotref01_add.f (k : Nat) (l0 : List Bool) (l1 : List Bool) : Option (List Bool) := foliotref01_add.l0 k l0 l1 ([] : List Bool) false 0
set_option maxHeartbeats 8000000 in
set_option maxRecDepth 100000 in
theorem foliotref01_add.calls (k : Nat) (A0 : Option Addr) (c0 : Nat) (l0 : List Bool) (A1 : Option Addr) (c1 : Nat) (l1 : List Bool) (r : List Bool) (w : World) (hr0 : Kd.C Kd.bool w A0 l0.length l0) (hc0 : l0.length ≤ c0) (hr1 : Kd.C Kd.bool w A1 l1.length l1) (hc1 : l1.length ≤ c1) (h : foliotref01_add.f k l0 l1 = some r) :
  Calls Try.prog 145 #[.slice A0 l0.length c0, .slice A1 l1.length c1] w fun e w' => ∃ v0_ : Value, e = .returned (v0_) ∧ Kd.V Kd.bool 4 w' w.heap.size (fun k_ => (w.heap.size ≤ k_)) v0_ r ∧ Below w.heap.size w w' := by
 have HR0 := Aside0.mk hr0
 have HC0 := Aside0.mk hc0
 clear hr0 hc0
 have HR1 := Aside0.mk hr1
 have HC1 := Aside0.mk hc1
 clear hr1 hc1
 have HB := Aside0.mk (Below.refl w.heap.size w)
 have H : (foliotref01_add.l0 k l0 l1 ([] : List Bool) false 0) = some r := h
 clear h
 have H' := Aside0.mk H
 clear H
 go_enter Try.func145, Try.ntmps145
 go_wp2
 go_loopg [5, 6, 7] k (fun kq v5 v6 v7 w' => ∃ (x5_1 : List Bool) (x6_1 : Bool) (x7_1 : Int), v6 = .bool x6_1 ∧ v7 = .int .i64 x7_1 ∧ Aside0 (foliotref01_add.l0 kq l0 l1 x5_1 x6_1 x7_1 = some r) ∧ Aside0 (kq ≤ k) ∧ Aside0 (Kd.R Kd.bool 4 w' w.heap.size (fun k_ => (w.heap.size ≤ k_)) v5 x5_1) ∧ Aside0 (Below w.heap.size w w'))
 case atStart => exact ⟨(([] : List Bool)), (false), (0), (by first | rfl | (simp; done) | (simp [*]; done)), (by first | rfl | (simp; done) | (simp [*]; done)), H', ⟨Nat.le_refl _⟩, ⟨by first | exact Kd.R_nil _ _ _ _ _ | exact Kd.N_nil _ _ _ _ _ | exact Kd.V_nil _ _ _ _ _ | exact Kd.Q_nil _ _ _ _ _ | exact Kd.S_nil _ _ _ _ _⟩, ⟨Sq.bl HB⟩⟩
 case round =>
  clear H'
  try clear c1
  try clear p2
  obtain ⟨x5_1, x6_1, x7_1, rfl, rfl, HA, HK1, HO_5, HB⟩ := hrel
  cases gk with
  | zero => exact absurd HA.out (by simp [foliotref01_add.l0])
  | succ k1 =>
   have H := HA.out
   clear HA
   simp only [foliotref01_add.l0] at H
   have HC3 := Aside0.mk H
   clear H
   go_upto_region 4 with (fail)
   go_cut [18] (fun v18 wc => ∃ (kq : Nat) (x18_2 : Bool), v18 = .bool x18_2 ∧ Aside0 (foliotref01_add.j1 kq l0 l1 x5_1 x6_1 x7_1 x18_2 = some r) ∧ Aside0 (kq ≤ k1) ∧ Aside0 (Kd.R Kd.bool 4 wc w.heap.size (fun k_ => (w.heap.size ≤ k_)) u5 x5_1) ∧ Aside0 (Below w.heap.size w wc))
   case first =>
    have H := HC3.out
    clear HC3
    obtain ⟨ji4, hji4⟩ : ∃ j_ : Int, (mx (l0.length : Int) (l1.length : Int)) = j_ := ⟨_, rfl⟩
    (first | rw [hji4] at H | simp only [hji4] at H)
    (try (have hji4l : 0 ≤ ji4 := by (rw [← hji4]; unfold mx; (repeat' split) <;> omega)))
    (try (have hji4m : 0 ≤ ji4 := by omega))
    have hji4_ : (if (l0.length : Int) < (l1.length : Int) then (l1.length : Int) else (l0.length : Int)) = ji4 := hji4
    have hji4n : (if l0.length < l1.length then (l1.length : Int) else (l0.length : Int)) = ji4 := by rw [← hji4_]; split <;> split <;> omega
    have hji4d : decide (l0.length < l1.length) = decide ((l0.length : Int) < (l1.length : Int)) := by rw [decide_eq_decide]; omega
    by_cases c5 : x7_1 < (ji4)
    ·rw [if_pos c5] at H
     have c5b0 : decide (x7_1 < (ji4)) = true := decide_eq_true c5
     clear c5
     (first | rw [c5b0] | (simp only [i64_w, i32_w]; rw [c5b0]) | skip)
     have H' := Aside0.mk H
     clear H
     go_wp2
     go_meet
     case rel => exact ⟨_, (true), (by first | rfl | (simp; done) | (simp [*]; done)), H', ⟨by have := HK1.out; first | omega | exact Nat.le_refl _⟩, ⟨by (with_reducible repeat (first | apply Kd.R_alloc | apply Kd.R_drewN | apply Kd.R_drew)); exact HO_5.out⟩, ⟨Sq.bl HB⟩⟩
    ·rw [if_neg c5] at H
     have c5b0 : decide (x7_1 < (ji4)) = false := decide_eq_false c5
     clear c5
     (first | rw [c5b0] | (simp only [i64_w, i32_w]; rw [c5b0]) | skip)
     have H' := Aside0.mk H
     clear H
     go_wp2
     go_meet
     case rel => exact ⟨_, (x6_1), (by first | rfl | (simp; done) | (simp [*]; done)), H', ⟨by have := HK1.out; first | omega | exact Nat.le_refl _⟩, ⟨by (with_reducible repeat (first | apply Kd.R_alloc | apply Kd.R_drewN | apply Kd.R_drew)); exact HO_5.out⟩, ⟨Sq.bl HB⟩⟩
   case rest =>
    clear HC3
    try clear c1
    try clear p2
    try clear c5
    try clear c5b0
    try clear p2
    obtain ⟨kq, x18_2, rfl, HA, HJ2, HO_5, HB⟩ := hcut
    cases kq with
    | zero => exact absurd HA.out (by simp [foliotref01_add.j1])
    | succ kj2 =>
     have H := HA.out
     clear HA
     simp only [foliotref01_add.j1] at H
     by_cases c6 : x18_2 = true
     ·subst c6
      have H1 : ((foliotref01_at.f l0 x7_1).bind fun t528 => (if t528 = true then (foliotref01_add.j2 kj2 l0 l1 x5_1 x6_1 x7_1 (0 + 1)) else (foliotref01_add.j2 kj2 l0 l1 x5_1 x6_1 x7_1 0))) = some r := by rw [if_pos rfl] at H; exact H
      clear H
      have H := H1
      clear H1
      replace H := Sq.bd H
      obtain ⟨t528, A7, H⟩ := H
      (try dsimp -simprocs only at H)
      have HC8 := Aside0.mk H
      clear H
      go_upto_if 23 with (first | ((with_reducible refine gate_callee (f := 175) rfl ?_); refine Sq.gl (some 23) Try.func175 #[.slice A0 l0.length c0, .int .i64 x7_1] ?_; (with_reducible refine (foliotref01_at.calls _ _ l0 x7_1 t528 _ ?side1 ?side2 A7.out).mono ?_); (case side1 => exact Sq.ca (Kd.C_below HR0.out HB.out)); (case side2 => exact HC0.out); rintro e w' ⟨rfl, ⟨nd, rfl⟩⟩; refine ⟨_, rfl, ?_⟩))
      (try simp only [Act.put, List.setIfInBounds_toArray, List.set_cons_zero, List.set_cons_succ])
      go_cut [8] (fun v8 wc => ∃ (kq : Nat) (x8_7 : Int), v8 = .int .i64 x8_7 ∧ Aside0 (foliotref01_add.j2 kq l0 l1 x5_1 x6_1 x7_1 x8_7 = some r) ∧ Aside0 (kq ≤ kj2) ∧ Aside0 (Kd.R Kd.bool 4 wc w.heap.size (fun k_ => (w.heap.size ≤ k_)) u5 x5_1) ∧ Aside0 (Below w.heap.size w wc))
      case first =>
       have H := HC8.out
       clear HC8
       by_cases c9 : t528 = true
       ·subst c9
        have H1 : (foliotref01_add.j2 kj2 l0 l1 x5_1 x6_1 x7_1 (0 + 1)) = some r := by rw [if_pos rfl] at H; exact H
        clear H
        have H := H1
        clear H1
        have H' := Aside0.mk H
        clear H
        go_wp2
        go_meet
        case rel => exact ⟨_, (0 + 1), (by first | rfl | (simp; done) | (simp [*]; done)), H', ⟨by have := HK1.out; have := HJ2.out; first | omega | exact Nat.le_refl _⟩, ⟨by (with_reducible repeat (first | apply Kd.R_alloc | apply Kd.R_drewN | apply Kd.R_drew)); exact HO_5.out⟩, ⟨Sq.bl HB⟩⟩
       ·replace c9 := Bool.eq_false_iff.mpr c9
        subst c9
        have H1 : (foliotref01_add.j2 kj2 l0 l1 x5_1 x6_1 x7_1 0) = some r := by rw [if_neg (show ¬ (false = true) by decide)] at H; exact H
        clear H
        have H := H1
        clear H1
        have H' := Aside0.mk H
        clear H
        go_wp2
        go_meet
        case rel => exact ⟨_, (0), (by first | rfl | (simp; done) | (simp [*]; done)), H', ⟨by have := HK1.out; have := HJ2.out; first | omega | exact Nat.le_refl _⟩, ⟨by (with_reducible repeat (first | apply Kd.R_alloc | apply Kd.R_drewN | apply Kd.R_drew)); exact HO_5.out⟩, ⟨Sq.bl HB⟩⟩
      case rest =>
       clear HC8
       try clear c1
       try clear p2
       try clear c5
       try clear c5b0
       try clear c6
       try clear c9
       try clear p2
       obtain ⟨kq, x8_7, rfl, HA, HJ7, HO_5, HB⟩ := hcut
       cases kq with
       | zero => exact absurd HA.out (by simp [foliotref01_add.j2])
       | succ kj7 =>
        have H := HA.out
        clear HA
        simp only [foliotref01_add.j2] at H
        replace H := Sq.bd H
        obtain ⟨t529, A10, H⟩ := H
        (try dsimp -simprocs only at H)
        by_cases c11 : t529 = true
        ·subst c11
         have H1 : (if x6_1 = true then (if x5_1.length < 140737488355328 then (foliotref01_add.l0 kj7 l0 l1 (x5_1 ++ [((Int.tmod (wrap64 ((wrap64 (x8_7 + 1)) + 1)) 2) == 1)]) (decide ((wrap64 ((wrap64 (x8_7 + 1)) + 1)) ≥ 2)) (wrap64 (x7_1 + 1))) else (none)) else (if x5_1.length < 140737488355328 then (foliotref01_add.l0 kj7 l0 l1 (x5_1 ++ [((Int.tmod (wrap64 (x8_7 + 1)) 2) == 1)]) (decide ((wrap64 (x8_7 + 1)) ≥ 2)) (wrap64 (x7_1 + 1))) else (none))) = some r := by rw [if_pos rfl] at H; exact H
         clear H
         have H := H1
         clear H1
         by_cases c12 : x6_1 = true
         ·subst c12
          have H1 : (if x5_1.length < 140737488355328 then (foliotref01_add.l0 kj7 l0 l1 (x5_1 ++ [((Int.tmod (wrap64 ((wrap64 (x8_7 + 1)) + 1)) 2) == 1)]) (decide ((wrap64 ((wrap64 (x8_7 + 1)) + 1)) ≥ 2)) (wrap64 (x7_1 + 1))) else (none)) = some r := by rw [if_pos rfl] at H; exact H
          clear H
          have H := H1
          clear H1
          replace H := Sq.ifs H
          obtain ⟨c13, H⟩ := H
          have LMc13 := Aside0.mk c13
          clear c13
          obtain ⟨y530, hy530⟩ : ∃ y_ : List Bool, y_ = (x5_1 ++ [((Int.tmod (wrap64 ((wrap64 (x8_7 + 1)) + 1)) 2) == 1)]) := ⟨_, rfl⟩
          (first | (replace H := Sq.ny hy530 H; (try dsimp -simprocs only at H)) | rw [← hy530] at H | skip)
          have Ny530 := Aside0.mk hy530
          clear hy530
          have H' := Aside0.mk H
          clear H
          go_wp2_with (first | ((with_reducible refine gate_callee (f := 175) rfl ?_); refine Sq.gl (some 28) Try.func175 #[.slice A1 l1.length c1, .int .i64 x7_1] ?_; (with_reducible refine (foliotref01_at.calls _ _ l1 x7_1 true _ ?side1 ?side2 A10.out).mono ?_); (case side1 => exact Sq.ca (Kd.C_below HR1.out HB.out)); (case side2 => exact HC1.out); rintro e w' ⟨rfl, ⟨nd, rfl⟩⟩; refine ⟨_, rfl, ?_⟩) | ((with_reducible refine gate_builtin (b := .append) (xs := #[.tmp 34, .tmp 38]) rfl ?_); at_builtin; refine Kd.R_append Kd.bool (w0 := w) w.heap.size rfl (.tmp 34) (.tmp 38) 63 4 (.bool false) 1 rfl Try.underlying63 info4 rfl (by decide) (by omega) u5 x5_1 ((Int.tmod (wrap64 ((wrap64 (x8_7 + 1)) + 1)) 2) == 1) [.bool ((Int.tmod (wrap64 ((wrap64 (x8_7 + 1)) + 1)) 2) == 1)] (fun k_ => (w.heap.size ≤ k_)) (fun _ => False) rfl rfl ?aP (fun _ hk => hk.elim) ?aF ?aO ?aB ?aS ?aL ?_; (case aP => exact rfl); (case aB => exact (Sq.bl HB)); (case aF => exact (fun k_ hk => (Nat.le_trans (below_size (Sq.bl HB)) hk))); (case aO => exact (Sq.al HO_5)); (case aS => exact (below_size (Sq.bl HB))); (case aL => have := LMc13.out; omega); intro v531 w14 ho hb hg hat; rw [← Ny530.out] at ho; replace HB := Aside0.mk (hb); have HO532 := Aside0.mk (ho); clear HO_5; clear ho hb hg hat))
          go_roundg kj7
          case measure => have := HK1.out; have := HJ2.out; have := HJ7.out; omega
          case rel => exact ⟨(y530), (decide ((wrap64 ((wrap64 (x8_7 + 1)) + 1)) ≥ 2)), (wrap64 (x7_1 + 1)), (by first | rfl | (simp; done) | (simp [*]; done)), (by first | rfl | (simp; done) | (simp [*]; done)), H', ⟨by have := HK1.out; have := HJ2.out; have := HJ7.out; omega⟩, ⟨by (with_reducible repeat (first | apply Kd.R_alloc | apply Kd.R_drewN | apply Kd.R_drew)); exact HO532.out⟩, ⟨Sq.bl HB⟩⟩
         ·replace c12 := Bool.eq_false_iff.mpr c12
          subst c12
          have H1 : (if x5_1.length < 140737488355328 then (foliotref01_add.l0 kj7 l0 l1 (x5_1 ++ [((Int.tmod (wrap64 (x8_7 + 1)) 2) == 1)]) (decide ((wrap64 (x8_7 + 1)) ≥ 2)) (wrap64 (x7_1 + 1))) else (none)) = some r := by rw [if_neg (show ¬ (false = true) by decide)] at H; exact H
          clear H
          have H := H1
          clear H1
          replace H := Sq.ifs H
          obtain ⟨c15, H⟩ := H
          have LMc15 := Aside0.mk c15
          clear c15
          obtain ⟨y533, hy533⟩ : ∃ y_ : List Bool, y_ = (x5_1 ++ [((Int.tmod (wrap64 (x8_7 + 1)) 2) == 1)]) := ⟨_, rfl⟩
          (first | (replace H := Sq.ny hy533 H; (try dsimp -simprocs only at H)) | rw [← hy533] at H | skip)
          have Ny533 := Aside0.mk hy533
          clear hy533
          have H' := Aside0.mk H
          clear H
          go_wp2_with (first | ((with_reducible refine gate_callee (f := 175) rfl ?_); refine Sq.gl (some 28) Try.func175 #[.slice A1 l1.length c1, .int .i64 x7_1] ?_; (with_reducible refine (foliotref01_at.calls _ _ l1 x7_1 true _ ?side1 ?side2 A10.out).mono ?_); (case side1 => exact Sq.ca (Kd.C_below HR1.out HB.out)); (case side2 => exact HC1.out); rintro e w' ⟨rfl, ⟨nd, rfl⟩⟩; refine ⟨_, rfl, ?_⟩) | ((with_reducible refine gate_builtin (b := .append) (xs := #[.tmp 34, .tmp 38]) rfl ?_); at_builtin; refine Kd.R_append Kd.bool (w0 := w) w.heap.size rfl (.tmp 34) (.tmp 38) 63 4 (.bool false) 1 rfl Try.underlying63 info4 rfl (by decide) (by omega) u5 x5_1 ((Int.tmod (wrap64 (x8_7 + 1)) 2) == 1) [.bool ((Int.tmod (wrap64 (x8_7 + 1)) 2) == 1)] (fun k_ => (w.heap.size ≤ k_)) (fun _ => False) rfl rfl ?aP (fun _ hk => hk.elim) ?aF ?aO ?aB ?aS ?aL ?_; (case aP => exact rfl); (case aB => exact (Sq.bl HB)); (case aF => exact (fun k_ hk => (Nat.le_trans (below_size (Sq.bl HB)) hk))); (case aO => exact (Sq.al HO_5)); (case aS => exact (below_size (Sq.bl HB))); (case aL => have := LMc15.out; omega); intro v534 w16 ho hb hg hat; rw [← Ny533.out] at ho; replace HB := Aside0.mk (hb); have HO535 := Aside0.mk (ho); clear HO_5; clear ho hb hg hat))
          go_roundg kj7
          case measure => have := HK1.out; have := HJ2.out; have := HJ7.out; omega
          case rel => exact ⟨(y533), (decide ((wrap64 (x8_7 + 1)) ≥ 2)), (wrap64 (x7_1 + 1)), (by first | rfl | (simp; done) | (simp [*]; done)), (by first | rfl | (simp; done) | (simp [*]; done)), H', ⟨by have := HK1.out; have := HJ2.out; have := HJ7.out; omega⟩, ⟨by (with_reducible repeat (first | apply Kd.R_alloc | apply Kd.R_drewN | apply Kd.R_drew)); exact HO535.out⟩, ⟨Sq.bl HB⟩⟩
        ·replace c11 := Bool.eq_false_iff.mpr c11
         subst c11
         have H1 : (if x6_1 = true then (if x5_1.length < 140737488355328 then (foliotref01_add.l0 kj7 l0 l1 (x5_1 ++ [((Int.tmod (wrap64 (x8_7 + 1)) 2) == 1)]) (decide ((wrap64 (x8_7 + 1)) ≥ 2)) (wrap64 (x7_1 + 1))) else (none)) else (if x5_1.length < 140737488355328 then (foliotref01_add.l0 kj7 l0 l1 (x5_1 ++ [((Int.tmod x8_7 2) == 1)]) (decide (x8_7 ≥ 2)) (wrap64 (x7_1 + 1))) else (none))) = some r := by rw [if_neg (show ¬ (false = true) by decide)] at H; exact H
         clear H
         have H := H1
         clear H1
         by_cases c17 : x6_1 = true
         ·subst c17
          have H1 : (if x5_1.length < 140737488355328 then (foliotref01_add.l0 kj7 l0 l1 (x5_1 ++ [((Int.tmod (wrap64 (x8_7 + 1)) 2) == 1)]) (decide ((wrap64 (x8_7 + 1)) ≥ 2)) (wrap64 (x7_1 + 1))) else (none)) = some r := by rw [if_pos rfl] at H; exact H
          clear H
          have H := H1
          clear H1
          replace H := Sq.ifs H
          obtain ⟨c18, H⟩ := H
          have LMc18 := Aside0.mk c18
          clear c18
          obtain ⟨y536, hy536⟩ : ∃ y_ : List Bool, y_ = (x5_1 ++ [((Int.tmod (wrap64 (x8_7 + 1)) 2) == 1)]) := ⟨_, rfl⟩
          (first | (replace H := Sq.ny hy536 H; (try dsimp -simprocs only at H)) | rw [← hy536] at H | skip)
          have Ny536 := Aside0.mk hy536
          clear hy536
          have H' := Aside0.mk H
          clear H
          go_wp2_with (first | ((with_reducible refine gate_callee (f := 175) rfl ?_); refine Sq.gl (some 28) Try.func175 #[.slice A1 l1.length c1, .int .i64 x7_1] ?_; (with_reducible refine (foliotref01_at.calls _ _ l1 x7_1 false _ ?side1 ?side2 A10.out).mono ?_); (case side1 => exact Sq.ca (Kd.C_below HR1.out HB.out)); (case side2 => exact HC1.out); rintro e w' ⟨rfl, ⟨nd, rfl⟩⟩; refine ⟨_, rfl, ?_⟩) | ((with_reducible refine gate_builtin (b := .append) (xs := #[.tmp 34, .tmp 38]) rfl ?_); at_builtin; refine Kd.R_append Kd.bool (w0 := w) w.heap.size rfl (.tmp 34) (.tmp 38) 63 4 (.bool false) 1 rfl Try.underlying63 info4 rfl (by decide) (by omega) u5 x5_1 ((Int.tmod (wrap64 (x8_7 + 1)) 2) == 1) [.bool ((Int.tmod (wrap64 (x8_7 + 1)) 2) == 1)] (fun k_ => (w.heap.size ≤ k_)) (fun _ => False) rfl rfl ?aP (fun _ hk => hk.elim) ?aF ?aO ?aB ?aS ?aL ?_; (case aP => exact rfl); (case aB => exact (Sq.bl HB)); (case aF => exact (fun k_ hk => (Nat.le_trans (below_size (Sq.bl HB)) hk))); (case aO => exact (Sq.al HO_5)); (case aS => exact (below_size (Sq.bl HB))); (case aL => have := LMc18.out; omega); intro v537 w19 ho hb hg hat; rw [← Ny536.out] at ho; replace HB := Aside0.mk (hb); have HO538 := Aside0.mk (ho); clear HO_5; clear ho hb hg hat))
          go_roundg kj7
          case measure => have := HK1.out; have := HJ2.out; have := HJ7.out; omega
          case rel => exact ⟨(y536), (decide ((wrap64 (x8_7 + 1)) ≥ 2)), (wrap64 (x7_1 + 1)), (by first | rfl | (simp; done) | (simp [*]; done)), (by first | rfl | (simp; done) | (simp [*]; done)), H', ⟨by have := HK1.out; have := HJ2.out; have := HJ7.out; omega⟩, ⟨by (with_reducible repeat (first | apply Kd.R_alloc | apply Kd.R_drewN | apply Kd.R_drew)); exact HO538.out⟩, ⟨Sq.bl HB⟩⟩
         ·replace c17 := Bool.eq_false_iff.mpr c17
          subst c17
          have H1 : (if x5_1.length < 140737488355328 then (foliotref01_add.l0 kj7 l0 l1 (x5_1 ++ [((Int.tmod x8_7 2) == 1)]) (decide (x8_7 ≥ 2)) (wrap64 (x7_1 + 1))) else (none)) = some r := by rw [if_neg (show ¬ (false = true) by decide)] at H; exact H
          clear H
          have H := H1
          clear H1
          replace H := Sq.ifs H
          obtain ⟨c20, H⟩ := H
          have LMc20 := Aside0.mk c20
          clear c20
          obtain ⟨y539, hy539⟩ : ∃ y_ : List Bool, y_ = (x5_1 ++ [((Int.tmod x8_7 2) == 1)]) := ⟨_, rfl⟩
          (first | (replace H := Sq.ny hy539 H; (try dsimp -simprocs only at H)) | rw [← hy539] at H | skip)
          have Ny539 := Aside0.mk hy539
          clear hy539
          have H' := Aside0.mk H
          clear H
          go_wp2_with (first | ((with_reducible refine gate_callee (f := 175) rfl ?_); refine Sq.gl (some 28) Try.func175 #[.slice A1 l1.length c1, .int .i64 x7_1] ?_; (with_reducible refine (foliotref01_at.calls _ _ l1 x7_1 false _ ?side1 ?side2 A10.out).mono ?_); (case side1 => exact Sq.ca (Kd.C_below HR1.out HB.out)); (case side2 => exact HC1.out); rintro e w' ⟨rfl, ⟨nd, rfl⟩⟩; refine ⟨_, rfl, ?_⟩) | ((with_reducible refine gate_builtin (b := .append) (xs := #[.tmp 34, .tmp 38]) rfl ?_); at_builtin; refine Kd.R_append Kd.bool (w0 := w) w.heap.size rfl (.tmp 34) (.tmp 38) 63 4 (.bool false) 1 rfl Try.underlying63 info4 rfl (by decide) (by omega) u5 x5_1 ((Int.tmod x8_7 2) == 1) [.bool ((Int.tmod x8_7 2) == 1)] (fun k_ => (w.heap.size ≤ k_)) (fun _ => False) rfl rfl ?aP (fun _ hk => hk.elim) ?aF ?aO ?aB ?aS ?aL ?_; (case aP => exact rfl); (case aB => exact (Sq.bl HB)); (case aF => exact (fun k_ hk => (Nat.le_trans (below_size (Sq.bl HB)) hk))); (case aO => exact (Sq.al HO_5)); (case aS => exact (below_size (Sq.bl HB))); (case aL => have := LMc20.out; omega); intro v540 w21 ho hb hg hat; rw [← Ny539.out] at ho; replace HB := Aside0.mk (hb); have HO541 := Aside0.mk (ho); clear HO_5; clear ho hb hg hat))
          go_roundg kj7
          case measure => have := HK1.out; have := HJ2.out; have := HJ7.out; omega
          case rel => exact ⟨(y539), (decide (x8_7 ≥ 2)), (wrap64 (x7_1 + 1)), (by first | rfl | (simp; done) | (simp [*]; done)), (by first | rfl | (simp; done) | (simp [*]; done)), H', ⟨by have := HK1.out; have := HJ2.out; have := HJ7.out; omega⟩, ⟨by (with_reducible repeat (first | apply Kd.R_alloc | apply Kd.R_drewN | apply Kd.R_drew)); exact HO541.out⟩, ⟨Sq.bl HB⟩⟩
     ·replace c6 := Bool.eq_false_iff.mpr c6
      subst c6
      have H1 : ((foliotref01_cut.f kj2 x5_1).bind fun t525 => (some t525)) = some r := by rw [if_neg (show ¬ (false = true) by decide)] at H; exact H
      clear H
      have H := H1
      clear H1
      replace H := Sq.bd H
      obtain ⟨t525, A22, H⟩ := H
      (try dsimp -simprocs only at H)
      obtain rfl := Option.some.inj H
      obtain ⟨Ao23, co23, eo23⟩ := Kd.R_slice HO_5.out
      subst eo23
      go_wp2_with (first | ((with_reducible refine gate_callee (f := 173) rfl ?_); refine Sq.gl (some 43) Try.func173 #[.slice Ao23 x5_1.length co23] ?_; (with_reducible refine (foliotref01_cut.calls kj2 (fun k_ => some k_ = (.slice Ao23 x5_1.length co23 : Value).ownBlock) _ _ x5_1 t525 _ ?side1 A22.out).mono ?_); (case side1 => exact Kd.R_V (Kd.R_tight rfl (HO_5.out))); rintro e w24 ⟨v526, rfl, ho0, hb⟩; refine ⟨_, rfl, ?_⟩; have HO527 := Aside0.mk (Kd.V_lower (Kd.V_mono (ok' := fun k_ => (w.heap.size ≤ k_)) ho0 (fun k_ hk_ => Or.elim hk_ (fun hs_ => ((HO_5.out).1 k_ hs_.symm)) (fun hn_ => (Nat.le_trans (below_size (Sq.bl HB)) hn_)))) (below_size (Sq.bl HB))); replace HO_5 := Aside0.mk (Kd.R_below (Sq.al HO_5) hb); replace HB := Sq.bs HB hb; (try clear hb); (try clear hb2); (try clear hk); (try clear hi); (try clear ho0)))
      go_ret
      exact ⟨_, by first | rfl | (simp [errW_none, errW_some] <;> rfl) | (simp [*, errW_none, errW_some] <;> rfl), by (with_reducible repeat (first | apply Kd.V_alloc | apply Kd.V_drewN | apply Kd.V_drew)); exact HO527.out, Sq.bl HB⟩
def foliotref01_Add.j0 : Nat → List Int → List Int → Int → Int → Bool → Option (List Int)
 | 0, _, _, _, _, _ => none
 | k + 1, x0, x1, x5, x7, x22 => if x22 = true then ((foliotref01_limbs.f k (IntKind.u64.wrap (x5 + x7))).bind fun t546 => (some t546)) else ((foliotref01_Of.f k x0).bind fun t549 => ((foliotref01_Of.f k x1).bind fun t552 => ((foliotref01_add.f k t549 t552).bind fun t555 => ((foliotref01_Limbs.f k t555).bind fun t558 => (some t558)))))
def foliotref01_Add.f (k : Nat) (l0 : List Int) (l1 : List Int) : Option (List Int) := (foliotref01_short.f l0).bind fun bt542 => ((foliotref01_short.f l1).bind fun bt544 => (if bt542.2 = true then (foliotref01_Add.j0 k l0 l1 bt542.1 bt544.1 bt544.2) else (foliotref01_Add.j0 k l0 l1 bt542.1 bt544.1 false)))
set_option maxHeartbeats 8000000 in
set_option maxRecDepth 100000 in
theorem foliotref01_Add.calls (k : Nat) (A0 : Option Addr) (c0 : Nat) (l0 : List Int) (A1 : Option Addr) (c1 : Nat) (l1 : List Int) (r : List Int) (w : World) (hr0 : Kd.C (Kd.int .u32) w A0 l0.length l0) (hc0 : l0.length ≤ c0) (hr1 : Kd.C (Kd.int .u32) w A1 l1.length l1) (hc1 : l1.length ≤ c1) (h : foliotref01_Add.f k l0 l1 = some r) :
  Calls Try.prog 47 #[.slice A0 l0.length c0, .slice A1 l1.length c1] w fun e w' => ∃ v0_ : Value, e = .returned (v0_) ∧ Kd.R (Kd.int .u32) 107 w' w.heap.size (fun _ => True) v0_ r ∧ Below w.heap.size w w' := by
 have HR0 := Aside0.mk hr0
 have HC0 := Aside0.mk hc0
 clear hr0 hc0
 have HR1 := Aside0.mk hr1
 have HC1 := Aside0.mk hc1
 clear hr1 hc1
 have HB := Aside0.mk (Below.refl w.heap.size w)
 have H : ((foliotref01_short.f l0).bind fun bt542 => ((foliotref01_short.f l1).bind fun bt544 => (if bt542.2 = true then (foliotref01_Add.j0 k l0 l1 bt542.1 bt544.1 bt544.2) else (foliotref01_Add.j0 k l0 l1 bt542.1 bt544.1 false)))) = some r := h
 clear h
 replace H := Sq.bd H
 obtain ⟨⟨t542, t543⟩, A3, H⟩ := H
 (try dsimp -simprocs only at H)
 replace H := Sq.bd H
 obtain ⟨⟨t544, t545⟩, A4, H⟩ := H
 (try dsimp -simprocs only at H)
 have HC5 := Aside0.mk H
 clear H
 go_enter Try.func47, Try.ntmps47
 go_upto_region 3 with (first | ((with_reducible refine gate_callee (f := 142) rfl ?_); refine Sq.gl (some 11) Try.func142 #[.slice A0 l0.length c0] ?_; (with_reducible refine (foliotref01_short.calls _ _ l0 t542 t543 _ ?side1 ?side2 A3.out).mono ?_); (case side1 => repeat (first | exact HR0.out | (with_reducible refine Kd.C_alloc ?_ _) | (with_reducible refine Kd.C_drewN ?_ _) | (with_reducible refine Kd.C_drew ?_))); (case side2 => exact HC0.out); rintro e w' ⟨rfl, ⟨nd, rfl⟩⟩; refine ⟨_, rfl, ?_⟩) | ((with_reducible refine gate_callee (f := 142) rfl ?_); refine Sq.gl (some 16) Try.func142 #[.slice A1 l1.length c1] ?_; (with_reducible refine (foliotref01_short.calls _ _ l1 t544 t545 _ ?side1 ?side2 A4.out).mono ?_); (case side1 => repeat (first | exact HR1.out | (with_reducible refine Kd.C_alloc ?_ _) | (with_reducible refine Kd.C_drewN ?_ _) | (with_reducible refine Kd.C_drew ?_))); (case side2 => exact HC1.out); rintro e w' ⟨rfl, ⟨nd, rfl⟩⟩; refine ⟨_, rfl, ?_⟩))
 (try simp only [Act.put, List.setIfInBounds_toArray, List.set_cons_zero, List.set_cons_succ])
 go_cut [22] (fun v22 wc => ∃ (kq : Nat) (x22_4 : Bool), v22 = .bool x22_4 ∧ Aside0 (foliotref01_Add.j0 kq l0 l1 t542 t544 x22_4 = some r) ∧ Aside0 (kq ≤ k) ∧ Aside0 (Below w.heap.size w wc))
 case first =>
  have H := HC5.out
  clear HC5
  by_cases c6 : t543 = true
  ·subst c6
   have H1 : (foliotref01_Add.j0 k l0 l1 t542 t544 t545) = some r := by rw [if_pos rfl] at H; exact H
   clear H
   have H := H1
   clear H1
   have H' := Aside0.mk H
   clear H
   go_wp2
   go_meet
   case rel => exact ⟨_, (t545), (by first | rfl | (simp; done) | (simp [*]; done)), H', ⟨by first | omega | exact Nat.le_refl _⟩, ⟨Sq.bl HB⟩⟩
  ·replace c6 := Bool.eq_false_iff.mpr c6
   subst c6
   have H1 : (foliotref01_Add.j0 k l0 l1 t542 t544 false) = some r := by rw [if_neg (show ¬ (false = true) by decide)] at H; exact H
   clear H
   have H := H1
   clear H1
   have H' := Aside0.mk H
   clear H
   go_wp2
   go_meet
   case rel => exact ⟨_, (false), (by first | rfl | (simp; done) | (simp [*]; done)), H', ⟨by first | omega | exact Nat.le_refl _⟩, ⟨Sq.bl HB⟩⟩
 case rest =>
  clear HC5
  try clear c1
  try clear p2
  try clear c4
  try clear c6
  obtain ⟨kq, x22_4, rfl, HA, HJ4, HB⟩ := hcut
  cases kq with
  | zero => exact absurd HA.out (by simp [foliotref01_Add.j0])
  | succ kj4 =>
   have H := HA.out
   clear HA
   simp only [foliotref01_Add.j0] at H
   by_cases c7 : x22_4 = true
   ·subst c7
    have H1 : ((foliotref01_limbs.f kj4 (IntKind.u64.wrap (t542 + t544))).bind fun t546 => (some t546)) = some r := by rw [if_pos rfl] at H; exact H
    clear H
    have H := H1
    clear H1
    replace H := Sq.bd H
    obtain ⟨t546, A8, H⟩ := H
    (try dsimp -simprocs only at H)
    obtain rfl := Option.some.inj H
    go_wp2_with (first | ((with_reducible refine gate_callee (f := 140) rfl ?_); refine Sq.gl (some 26) Try.func140 #[.int .u64 (IntKind.u64.wrap (t542 + t544))] ?_; (with_reducible refine (foliotref01_limbs.calls kj4 (IntKind.u64.wrap (t542 + t544)) t546 _ A8.out).mono ?_); rintro e w9 ⟨v547, rfl, ho0, hb⟩; refine ⟨_, rfl, ?_⟩; have HO548 := Aside0.mk (Kd.R_lower ho0 (below_size (Sq.bl HB))); replace HB := Sq.bs HB hb; (try clear hb); (try clear hb2); (try clear hk); (try clear hi); (try clear ho0)))
    go_ret
    exact ⟨_, by first | rfl | (simp [errW_none, errW_some] <;> rfl) | (simp [*, errW_none, errW_some] <;> rfl), by (with_reducible repeat (first | apply Kd.R_alloc | apply Kd.R_drewN | apply Kd.R_drew)); exact HO548.out, Sq.bl HB⟩
   ·replace c7 := Bool.eq_false_iff.mpr c7
    subst c7
    have H1 : ((foliotref01_Of.f kj4 l0).bind fun t549 => ((foliotref01_Of.f kj4 l1).bind fun t552 => ((foliotref01_add.f kj4 t549 t552).bind fun t555 => ((foliotref01_Limbs.f kj4 t555).bind fun t558 => (some t558))))) = some r := by rw [if_neg (show ¬ (false = true) by decide)] at H; exact H
    clear H
    have H := H1
    clear H1
    replace H := Sq.bd H
    obtain ⟨t549, A10, H⟩ := H
    (try dsimp -simprocs only at H)
    replace H := Sq.bd H
    obtain ⟨t552, A11, H⟩ := H
    (try dsimp -simprocs only at H)
    replace H := Sq.bd H
    obtain ⟨t555, A12, H⟩ := H
    (try dsimp -simprocs only at H)
    replace H := Sq.bd H
    obtain ⟨t558, A13, H⟩ := H
    (try dsimp -simprocs only at H)
    obtain rfl := Option.some.inj H
    go_wp2_with (first | ((with_reducible refine gate_callee (f := 135) rfl ?_); refine Sq.gl (some 28) Try.func135 #[.slice A0 l0.length c0] ?_; (with_reducible refine (foliotref01_Of.calls kj4 _ _ l0 t549 _ ?side1 ?side2 A10.out).mono ?_); (case side1 => exact Sq.ca (Kd.C_below HR0.out HB.out)); (case side2 => exact HC0.out); rintro e w14 ⟨v550, rfl, ho0, hb⟩; refine ⟨_, rfl, ?_⟩; have HO551 := Aside0.mk (Kd.V_lower (Kd.V_mono (ok' := fun k_ => True) ho0 (fun k_ hk_ => trivial)) (below_size (Sq.bl HB))); replace HB := Sq.bs HB hb; (try clear hb); (try clear hb2); (try clear hk); (try clear hi); (try clear ho0)) | ((with_reducible refine gate_callee (f := 135) rfl ?_); refine Sq.gl (some 30) Try.func135 #[.slice A1 l1.length c1] ?_; (with_reducible refine (foliotref01_Of.calls kj4 _ _ l1 t552 _ ?side1 ?side2 A11.out).mono ?_); (case side1 => exact Sq.ca (Kd.C_below HR1.out HB.out)); (case side2 => exact HC1.out); rintro e w15 ⟨v553, rfl, ho0, hb⟩; refine ⟨_, rfl, ?_⟩; replace HO551 := Aside0.mk (Kd.V_below (Sq.al HO551) hb); have HO554 := Aside0.mk (Kd.V_lower (Kd.V_mono (ok' := fun k_ => True) ho0 (fun k_ hk_ => trivial)) (below_size (Sq.bl HB))); replace HB := Sq.bs HB hb; (try clear hb); (try clear hb2); (try clear hk); (try clear hi); (try clear ho0); obtain ⟨Ao16, co16, eo16⟩ := Kd.V_slice HO551.out; subst eo16; obtain ⟨Ao17, co17, eo17⟩ := Kd.V_slice HO554.out; subst eo17) | ((with_reducible refine gate_callee (f := 145) rfl ?_); refine Sq.gl (some 31) Try.func145 #[.slice Ao16 t549.length co16, .slice Ao17 t552.length co17] ?_; (with_reducible refine (foliotref01_add.calls kj4 _ _ t549 _ _ t552 t555 _ ?side1 ?side2 ?side3 ?side4 A12.out).mono ?_); (case side1 => exact Sq.ca (Kd.V_reads' HO551.out).2.2); (case side2 => exact (Kd.V_reads' HO551.out).2.1); (case side3 => exact Sq.ca (Kd.V_reads' HO554.out).2.2); (case side4 => exact (Kd.V_reads' HO554.out).2.1); rintro e w18 ⟨v556, rfl, ho0, hb⟩; refine ⟨_, rfl, ?_⟩; replace HO551 := Aside0.mk (Kd.V_below (Sq.al HO551) hb); replace HO554 := Aside0.mk (Kd.V_below (Sq.al HO554) hb); have HO557 := Aside0.mk (Kd.V_lower (Kd.V_mono (ok' := fun k_ => True) ho0 (fun k_ hk_ => trivial)) (below_size (Sq.bl HB))); replace HB := Sq.bs HB hb; (try clear hb); (try clear hb2); (try clear hk); (try clear hi); (try clear ho0); obtain ⟨Ao19, co19, eo19⟩ := Kd.V_slice HO557.out; subst eo19) | ((with_reducible refine gate_callee (f := 137) rfl ?_); refine Sq.gl (some 32) Try.func137 #[.slice Ao19 t555.length co19] ?_; (with_reducible refine (foliotref01_Limbs.calls kj4 _ _ t555 t558 _ ?side1 ?side2 A13.out).mono ?_); (case side1 => exact Sq.ca (Kd.V_reads' HO557.out).2.2); (case side2 => exact (Kd.V_reads' HO557.out).2.1); rintro e w20 ⟨v559, rfl, ho0, hb⟩; refine ⟨_, rfl, ?_⟩; replace HO551 := Aside0.mk (Kd.V_elder' (Sq.al HO551) (Kd.R_base ho0) hb); replace HO554 := Aside0.mk (Kd.V_elder' (Sq.al HO554) (Kd.R_base ho0) hb); replace HO557 := Aside0.mk (Kd.V_elder' (Sq.al HO557) (Kd.R_base ho0) hb); have HO560 := Aside0.mk (Kd.R_lower ho0 (below_size (Sq.bl HB))); replace HB := Sq.bs HB hb; (try clear hb); (try clear hb2); (try clear hk); (try clear hi); (try clear ho0)))
    go_ret
    exact ⟨_, by first | rfl | (simp [errW_none, errW_some] <;> rfl) | (simp [*, errW_none, errW_some] <;> rfl), by (with_reducible repeat (first | apply Kd.R_alloc | apply Kd.R_drewN | apply Kd.R_drew)); exact HO560.out, Sq.bl HB⟩
mutual
def foliotref01_Mul.j0 : Nat → List Int → List Int → Int → Int → Bool → Option (List Int)
 | 0, _, _, _, _, _ => none
 | k + 1, x0, x1, x5, x7, x26 => if x26 = true then ((foliotref01_limbs.f k (IntKind.u64.wrap (x5 * x7))).bind fun t565 => (some t565)) else ((foliotref01_Of.f k x0).bind fun t568 => ((foliotref01_Of.f k x1).bind fun t571 => (foliotref01_Mul.l0 k t568 t571 ([] : List Bool) (wrap64 ((t571.length : Int) - 1)))))
def foliotref01_Mul.l0 : Nat → List Bool → List Bool → List Bool → Int → Option (List Int)
 | 0, _, _, _, _ => none
 | k + 1, x9, x10, x11, x12 => if x12 ≥ 0 then ((some (([false] : List Bool) : List Bool)).bind fun y574 => (if y574.length + x11.length < 140737488355328 then ((some (y574 ++ x11 : List Bool)).bind fun y577 => (if 0 ≤ x12 then (if x12 < (x10.length : Int) then (if rdOf false x10 x12 = true then ((foliotref01_add.f k y577 x9).bind fun t581 => (foliotref01_Mul.l0 k x9 x10 t581 (wrap64 (x12 - 1)))) else (foliotref01_Mul.l0 k x9 x10 y577 (wrap64 (x12 - 1)))) else (none)) else (none))) else (none))) else ((foliotref01_Limbs.f k x11).bind fun t584 => (some t584))
end
def foliotref01_Mul.f (k : Nat) (l0 : List Int) (l1 : List Int) : Option (List Int) := (foliotref01_short.f l0).bind fun bt561 => ((foliotref01_short.f l1).bind fun bt563 => (if bt561.2 = true then (foliotref01_Mul.j0 k l0 l1 bt561.1 bt563.1 bt563.2) else (foliotref01_Mul.j0 k l0 l1 bt561.1 bt563.1 false)))
set_option maxHeartbeats 8000000 in
set_option maxRecDepth 100000 in
theorem foliotref01_Mul.calls (k : Nat) (A0 : Option Addr) (c0 : Nat) (l0 : List Int) (A1 : Option Addr) (c1 : Nat) (l1 : List Int) (r : List Int) (w : World) (hr0 : Kd.C (Kd.int .u32) w A0 l0.length l0) (hc0 : l0.length ≤ c0) (hr1 : Kd.C (Kd.int .u32) w A1 l1.length l1) (hc1 : l1.length ≤ c1) (h : foliotref01_Mul.f k l0 l1 = some r) :
  Calls Try.prog 48 #[.slice A0 l0.length c0, .slice A1 l1.length c1] w fun e w' => ∃ v0_ : Value, e = .returned (v0_) ∧ Kd.R (Kd.int .u32) 107 w' w.heap.size (fun _ => True) v0_ r ∧ Below w.heap.size w w' := by
 have HR0 := Aside0.mk hr0
 have HC0 := Aside0.mk hc0
 clear hr0 hc0
 have HR1 := Aside0.mk hr1
 have HC1 := Aside0.mk hc1
 clear hr1 hc1
 have HB := Aside0.mk (Below.refl w.heap.size w)
 have H : ((foliotref01_short.f l0).bind fun bt561 => ((foliotref01_short.f l1).bind fun bt563 => (if bt561.2 = true then (foliotref01_Mul.j0 k l0 l1 bt561.1 bt563.1 bt563.2) else (foliotref01_Mul.j0 k l0 l1 bt561.1 bt563.1 false)))) = some r := h
 clear h
 replace H := Sq.bd H
 obtain ⟨⟨t561, t562⟩, A3, H⟩ := H
 (try dsimp -simprocs only at H)
 replace H := Sq.bd H
 obtain ⟨⟨t563, t564⟩, A4, H⟩ := H
 (try dsimp -simprocs only at H)
 have HC5 := Aside0.mk H
 clear H
 go_enter Try.func48, Try.ntmps48
 go_upto_region 3 with (first | ((with_reducible refine gate_callee (f := 142) rfl ?_); refine Sq.gl (some 15) Try.func142 #[.slice A0 l0.length c0] ?_; (with_reducible refine (foliotref01_short.calls _ _ l0 t561 t562 _ ?side1 ?side2 A3.out).mono ?_); (case side1 => repeat (first | exact HR0.out | (with_reducible refine Kd.C_alloc ?_ _) | (with_reducible refine Kd.C_drewN ?_ _) | (with_reducible refine Kd.C_drew ?_))); (case side2 => exact HC0.out); rintro e w' ⟨rfl, ⟨nd, rfl⟩⟩; refine ⟨_, rfl, ?_⟩) | ((with_reducible refine gate_callee (f := 142) rfl ?_); refine Sq.gl (some 20) Try.func142 #[.slice A1 l1.length c1] ?_; (with_reducible refine (foliotref01_short.calls _ _ l1 t563 t564 _ ?side1 ?side2 A4.out).mono ?_); (case side1 => repeat (first | exact HR1.out | (with_reducible refine Kd.C_alloc ?_ _) | (with_reducible refine Kd.C_drewN ?_ _) | (with_reducible refine Kd.C_drew ?_))); (case side2 => exact HC1.out); rintro e w' ⟨rfl, ⟨nd, rfl⟩⟩; refine ⟨_, rfl, ?_⟩))
 (try simp only [Act.put, List.setIfInBounds_toArray, List.set_cons_zero, List.set_cons_succ])
 go_cut [26] (fun v26 wc => ∃ (kq : Nat) (x26_4 : Bool), v26 = .bool x26_4 ∧ Aside0 (foliotref01_Mul.j0 kq l0 l1 t561 t563 x26_4 = some r) ∧ Aside0 (kq ≤ k) ∧ Aside0 (Below w.heap.size w wc))
 case first =>
  have H := HC5.out
  clear HC5
  by_cases c6 : t562 = true
  ·subst c6
   have H1 : (foliotref01_Mul.j0 k l0 l1 t561 t563 t564) = some r := by rw [if_pos rfl] at H; exact H
   clear H
   have H := H1
   clear H1
   have H' := Aside0.mk H
   clear H
   go_wp2
   go_meet
   case rel => exact ⟨_, (t564), (by first | rfl | (simp; done) | (simp [*]; done)), H', ⟨by first | omega | exact Nat.le_refl _⟩, ⟨Sq.bl HB⟩⟩
  ·replace c6 := Bool.eq_false_iff.mpr c6
   subst c6
   have H1 : (foliotref01_Mul.j0 k l0 l1 t561 t563 false) = some r := by rw [if_neg (show ¬ (false = true) by decide)] at H; exact H
   clear H
   have H := H1
   clear H1
   have H' := Aside0.mk H
   clear H
   go_wp2
   go_meet
   case rel => exact ⟨_, (false), (by first | rfl | (simp; done) | (simp [*]; done)), H', ⟨by first | omega | exact Nat.le_refl _⟩, ⟨Sq.bl HB⟩⟩
 case rest =>
  clear HC5
  try clear c1
  try clear p2
  try clear c4
  try clear c6
  obtain ⟨kq, x26_4, rfl, HA, HJ4, HB⟩ := hcut
  cases kq with
  | zero => exact absurd HA.out (by simp [foliotref01_Mul.j0])
  | succ kj4 =>
   have H := HA.out
   clear HA
   simp only [foliotref01_Mul.j0] at H
   by_cases c7 : x26_4 = true
   ·subst c7
    have H1 : ((foliotref01_limbs.f kj4 (IntKind.u64.wrap (t561 * t563))).bind fun t565 => (some t565)) = some r := by rw [if_pos rfl] at H; exact H
    clear H
    have H := H1
    clear H1
    replace H := Sq.bd H
    obtain ⟨t565, A8, H⟩ := H
    (try dsimp -simprocs only at H)
    obtain rfl := Option.some.inj H
    go_wp2_with (first | ((with_reducible refine gate_callee (f := 140) rfl ?_); refine Sq.gl (some 30) Try.func140 #[.int .u64 (IntKind.u64.wrap (t561 * t563))] ?_; (with_reducible refine (foliotref01_limbs.calls kj4 (IntKind.u64.wrap (t561 * t563)) t565 _ A8.out).mono ?_); rintro e w9 ⟨v566, rfl, ho0, hb⟩; refine ⟨_, rfl, ?_⟩; have HO567 := Aside0.mk (Kd.R_lower ho0 (below_size (Sq.bl HB))); replace HB := Sq.bs HB hb; (try clear hb); (try clear hb2); (try clear hk); (try clear hi); (try clear ho0)))
    go_ret
    exact ⟨_, by first | rfl | (simp [errW_none, errW_some] <;> rfl) | (simp [*, errW_none, errW_some] <;> rfl), by (with_reducible repeat (first | apply Kd.R_alloc | apply Kd.R_drewN | apply Kd.R_drew)); exact HO567.out, Sq.bl HB⟩
   ·replace c7 := Bool.eq_false_iff.mpr c7
    subst c7
    have H1 : ((foliotref01_Of.f kj4 l0).bind fun t568 => ((foliotref01_Of.f kj4 l1).bind fun t571 => (foliotref01_Mul.l0 kj4 t568 t571 ([] : List Bool) (wrap64 ((t571.length : Int) - 1))))) = some r := by rw [if_neg (show ¬ (false = true) by decide)] at H; exact H
    clear H
    have H := H1
    clear H1
    replace H := Sq.bd H
    obtain ⟨t568, A10, H⟩ := H
    (try dsimp -simprocs only at H)
    replace H := Sq.bd H
    obtain ⟨t571, A11, H⟩ := H
    (try dsimp -simprocs only at H)
    have H' := Aside0.mk H
    clear H
    go_wp2_with (first | ((with_reducible refine gate_callee (f := 135) rfl ?_); refine Sq.gl (some 32) Try.func135 #[.slice A0 l0.length c0] ?_; (with_reducible refine (foliotref01_Of.calls kj4 _ _ l0 t568 _ ?side1 ?side2 A10.out).mono ?_); (case side1 => exact Sq.ca (Kd.C_below HR0.out HB.out)); (case side2 => exact HC0.out); rintro e w12 ⟨v569, rfl, ho0, hb⟩; refine ⟨_, rfl, ?_⟩; have HO570 := Aside0.mk (Kd.V_lower (Kd.V_mono (ok' := fun k_ => True) ho0 (fun k_ hk_ => trivial)) (below_size (Sq.bl HB))); replace HB := Sq.bs HB hb; (try clear hb); (try clear hb2); (try clear hk); (try clear hi); (try clear ho0)) | ((with_reducible refine gate_callee (f := 135) rfl ?_); refine Sq.gl (some 34) Try.func135 #[.slice A1 l1.length c1] ?_; (with_reducible refine (foliotref01_Of.calls kj4 _ _ l1 t571 _ ?side1 ?side2 A11.out).mono ?_); (case side1 => exact Sq.ca (Kd.C_below HR1.out HB.out)); (case side2 => exact HC1.out); rintro e w13 ⟨v572, rfl, ho0, hb⟩; refine ⟨_, rfl, ?_⟩; replace HO570 := Aside0.mk (Kd.V_below (Sq.al HO570) hb); have HO573 := Aside0.mk (Kd.V_lower (Kd.V_mono (ok' := fun k_ => True) ho0 (fun k_ hk_ => trivial)) (below_size (Sq.bl HB))); replace HB := Sq.bs HB hb; (try clear hb); (try clear hb2); (try clear hk); (try clear hi); (try clear ho0); obtain ⟨Ao14, co14, eo14⟩ := Kd.V_slice HO573.out; subst eo14))
    go_loopg [11, 12] kj4 (fun kq v11 v12 w' => ∃ (x11_2 : List Bool) (x12_2 : Int), v12 = .int .i64 x12_2 ∧ Aside0 (foliotref01_Mul.l0 kq t568 t571 x11_2 x12_2 = some r) ∧ Aside0 (kq ≤ kj4) ∧ Aside0 (Kd.V Kd.bool 4 w' w.heap.size (fun _ => True) v569 t568) ∧ Aside0 (Kd.V Kd.bool 4 w' w.heap.size (fun _ => True) (.slice Ao14 t571.length co14) t571) ∧ Aside0 (Kd.V Kd.bool 4 w' w.heap.size (fun _ => True) v11 x11_2) ∧ Aside0 (Below w.heap.size w w'))
    case atStart => exact ⟨(([] : List Bool)), (wrap64 ((t571.length : Int) - 1)), (by first | rfl | (simp; done) | (simp [*]; done)), H', ⟨Nat.le_refl _⟩, ⟨by (with_reducible repeat (first | apply Kd.V_alloc | apply Kd.V_drewN | apply Kd.V_drew)); exact HO570.out⟩, ⟨by (with_reducible repeat (first | apply Kd.V_alloc | apply Kd.V_drewN | apply Kd.V_drew)); exact HO573.out⟩, ⟨(by exact Kd.V_nil _ _ _ _ _)⟩, ⟨Sq.bl HB⟩⟩
    case round =>
     clear H'
     try clear c1
     try clear p2
     try clear c4
     try clear c6
     try clear p6
     try clear c7
     try clear c13
     try clear c14
     try clear p2
     obtain ⟨x11_2, x12_2, rfl, HA, HK2, HO_9, HO_10, HO_11, HB⟩ := hrel
     cases gk with
     | zero => exact absurd HA.out (by simp [foliotref01_Mul.l0])
     | succ k2 =>
      have H := HA.out
      clear HA
      simp only [foliotref01_Mul.l0] at H
      by_cases c15 : x12_2 ≥ 0
      ·rw [if_pos c15] at H
       have c15b0 : decide (0 ≤ x12_2) = true := decide_eq_true c15
       clear c15
       obtain ⟨y574, hy574⟩ : ∃ y_ : List Bool, y_ = (([false] : List Bool)) := ⟨_, rfl⟩
       (first | (replace H := Sq.ny hy574 H; (try dsimp -simprocs only at H)) | rw [← hy574] at H | skip)
       have Ny574 := Aside0.mk hy574
       clear hy574
       replace H := Sq.ifs H
       obtain ⟨c16, H⟩ := H
       have LMc16 := Aside0.mk c16
       clear c16
       obtain ⟨y577, hy577⟩ : ∃ y_ : List Bool, y_ = (y574 ++ x11_2) := ⟨_, rfl⟩
       (first | (replace H := Sq.ny hy577 H; (try dsimp -simprocs only at H)) | rw [← hy577] at H | skip)
       have Ny577 := Aside0.mk hy577
       clear hy577
       replace H := Sq.ifs H
       obtain ⟨c17, H⟩ := H
       have c17b0 : decide (0 ≤ x12_2) = true := decide_eq_true c17
       clear c17
       replace H := Sq.ifs H
       obtain ⟨c18, H⟩ := H
       have c18b0 : decide (x12_2 < (t571.length : Int)) = true := decide_eq_true c18
       clear c18
       obtain ⟨bq19, hbq19⟩ : ∃ b_ : Bool, b_ = (rdOf false t571 x12_2) := ⟨_, rfl⟩
       replace H : (if bq19 = true then ((foliotref01_add.f k2 y577 t568).bind fun t581 => (foliotref01_Mul.l0 k2 t568 t571 t581 (wrap64 (x12_2 - 1)))) else (foliotref01_Mul.l0 k2 t568 t571 y577 (wrap64 (x12_2 - 1)))) = some r := by rw [← hbq19] at H; exact H
       have Nbq19 := Aside0.mk hbq19
       clear hbq19
       by_cases c20 : bq19 = true
       ·subst c20
        have H1 : ((foliotref01_add.f k2 y577 t568).bind fun t581 => (foliotref01_Mul.l0 k2 t568 t571 t581 (wrap64 (x12_2 - 1)))) = some r := by rw [if_pos rfl] at H; exact H
        clear H
        have H := H1
        clear H1
        replace H := Sq.bd H
        obtain ⟨t581, A21, H⟩ := H
        (try dsimp -simprocs only at H)
        have H' := Aside0.mk H
        clear H
        go_wp2_with (first | ((with_reducible refine gate_dst (N := 42) rfl ?_); refine Kd.R_lit Kd.bool _ 4 ?hg (N := 42) ?hd (xs := ([false] : List Bool)) (inner := [.bool false]) (ok := fun _ => True) (okp := fun _ => True) ?hr ?hp (fun _ hk => hk) trivial (Below.refl _ _) (Nat.le_refl _) (by simp) ?_; (case hd => rfl); (case hg => rfl); (case hr => first | (go_simp; done) | (go_simp; rfl)); (case hp => exact (Reps.one (show Kd.M Kd.bool _ _ _ false [.bool false] from rfl) (Reps.none _ _))); intro v575 w22 ho23 hb hg_ hnew_; clear hg_ hnew_; (first | rw [← Ny574.out] at ho23 | (simp only [Int.reduceToNat] at ho23; rw [← Ny574.out] at ho23)); replace HO_9 := Aside0.mk (Kd.V_elder' (Sq.al HO_9) (Kd.R_base ho23) hb); replace HO_10 := Aside0.mk (Kd.V_elder' (Sq.al HO_10) (Kd.R_base ho23) hb); replace HO_11 := Aside0.mk (Kd.V_elder' (Sq.al HO_11) (Kd.R_base ho23) hb); have HO576 := Aside0.mk (Kd.R_lower ho23 (below_size (Sq.bl HB))); replace HB := Sq.bs HB hb; clear hb ho23; obtain ⟨Ao25, co25, eo25⟩ := Kd.V_slice HO_11.out; subst eo25) | ((with_reducible refine gate_builtin (b := .append) (xs := #[.tmp 42, .tmp 43]) rfl ?_); at_builtin; refine Kd.R_append_rows Kd.bool (w0 := w) w.heap.size rfl (.tmp 42) (.tmp 43) 63 4 (.bool false) 1 rfl Try.underlying63 info4 rfl (by decide) (by omega) v575 y574 x11_2 _ _ _ (fun _ => True) (fun _ => False) rfl rfl ?aO ?aR (fun _ _ h => h) (fun _ h => h.elim) ?aF ?aB ?aS ?aL ?_; (case aR => exact Sq.ca (Kd.V_reads' HO_11.out).2.2); (case aB => exact (Sq.bl HB)); (case aF => exact (fun _ _ => trivial)); (case aO => exact (Sq.al HO576)); (case aS => exact (below_size (Sq.bl HB))); (case aL => have := LMc16.out; omega); intro v578 w24 ho hb hg hat; rw [← Ny577.out] at ho; replace HO_9 := Aside0.mk (Kd.V_afterv (ok := (fun _ => True)) (Sq.al HO_9) hg hat); replace HO_10 := Aside0.mk (Kd.V_afterv (ok := (fun _ => True)) (Sq.al HO_10) hg hat); replace HO_11 := Aside0.mk (Kd.V_afterv (ok := (fun _ => True)) (Sq.al HO_11) hg hat); replace HB := Aside0.mk (hb); have HO579 := Aside0.mk (ho); clear HO576; clear ho hb hg hat; have p580 : 0 ≤ (x12_2 : Int) := of_decide_eq_true (by first | (with_reducible assumption) | assumption); have q580 : x12_2 < (t571.length : Int) := of_decide_eq_true (by first | (with_reducible assumption) | assumption); obtain ⟨ad580, e580, hx580_0⟩ := Kd.at_bool (Kd.V_reads' HO_10.out).2.2 x12_2 p580 q580; (try rw [← Nbq19.out] at hx580_0); cases e580; replace p580 := eq_true p580; replace q580 := eq_true q580; obtain ⟨Ao26, co26, eo26⟩ := Kd.R_slice HO579.out; subst eo26; obtain ⟨Ao27, co27, eo27⟩ := Kd.V_slice HO_9.out; subst eo27) | ((with_reducible refine gate_callee (f := 145) rfl ?_); refine Sq.gl (some 51) Try.func145 #[.slice Ao26 y577.length co26, .slice Ao27 t568.length co27] ?_; (with_reducible refine (foliotref01_add.calls k2 _ _ y577 _ _ t568 t581 _ ?side1 ?side2 ?side3 ?side4 A21.out).mono ?_); (case side1 => exact Sq.ca (Kd.R_reads' HO579.out).2.2); (case side2 => exact (Kd.R_reads' HO579.out).2.1); (case side3 => exact Sq.ca (Kd.V_reads' HO_9.out).2.2); (case side4 => exact (Kd.V_reads' HO_9.out).2.1); rintro e w28 ⟨v582, rfl, ho0, hb⟩; refine ⟨_, rfl, ?_⟩; replace HO_9 := Aside0.mk (Kd.V_below (Sq.al HO_9) hb); replace HO_10 := Aside0.mk (Kd.V_below (Sq.al HO_10) hb); replace HO_11 := Aside0.mk (Kd.V_below (Sq.al HO_11) hb); have HO583 := Aside0.mk (Kd.V_lower (Kd.V_mono (ok' := fun k_ => some k_ ≠ (.slice Ao26 y577.length co26 : Value).ownBlock) ho0 (fun k_ hk_ => (Kd.fresh' (Kd.R_lt (Sq.al HO579)) k_ hk_))) (below_size (Sq.bl HB))); replace HO579 := Aside0.mk (Kd.R_below (Sq.al HO579) hb); replace HB := Sq.bs HB hb; (try clear hb); (try clear hb2); (try clear hk); (try clear hi); (try clear ho0)))
        go_roundg k2
        case measure => have := HJ4.out; have := HK2.out; omega
        case rel => exact ⟨(t581), (wrap64 (x12_2 - 1)), (by first | rfl | (simp; done) | (simp [*]; done)), H', ⟨by have := HJ4.out; have := HK2.out; omega⟩, ⟨by (with_reducible repeat (first | apply Kd.V_alloc | apply Kd.V_drewN | apply Kd.V_drew)); exact Kd.V_mono HO_9.out (fun _ hk => trivial)⟩, ⟨by (with_reducible repeat (first | apply Kd.V_alloc | apply Kd.V_drewN | apply Kd.V_drew)); exact Kd.V_mono HO_10.out (fun _ hk => trivial)⟩, ⟨by (with_reducible repeat (first | apply Kd.V_alloc | apply Kd.V_drewN | apply Kd.V_drew)); exact Kd.V_mono HO583.out (fun _ hk => trivial)⟩, ⟨Sq.bl HB⟩⟩
       ·replace c20 := Bool.eq_false_iff.mpr c20
        subst c20
        have H1 : (foliotref01_Mul.l0 k2 t568 t571 y577 (wrap64 (x12_2 - 1))) = some r := by rw [if_neg (show ¬ (false = true) by decide)] at H; exact H
        clear H
        have H := H1
        clear H1
        have H' := Aside0.mk H
        clear H
        go_wp2_with (first | ((with_reducible refine gate_dst (N := 42) rfl ?_); refine Kd.R_lit Kd.bool _ 4 ?hg (N := 42) ?hd (xs := ([false] : List Bool)) (inner := [.bool false]) (ok := fun _ => True) (okp := fun _ => True) ?hr ?hp (fun _ hk => hk) trivial (Below.refl _ _) (Nat.le_refl _) (by simp) ?_; (case hd => rfl); (case hg => rfl); (case hr => first | (go_simp; done) | (go_simp; rfl)); (case hp => exact (Reps.one (show Kd.M Kd.bool _ _ _ false [.bool false] from rfl) (Reps.none _ _))); intro v575 w29 ho30 hb hg_ hnew_; clear hg_ hnew_; (first | rw [← Ny574.out] at ho30 | (simp only [Int.reduceToNat] at ho30; rw [← Ny574.out] at ho30)); replace HO_9 := Aside0.mk (Kd.V_elder' (Sq.al HO_9) (Kd.R_base ho30) hb); replace HO_10 := Aside0.mk (Kd.V_elder' (Sq.al HO_10) (Kd.R_base ho30) hb); replace HO_11 := Aside0.mk (Kd.V_elder' (Sq.al HO_11) (Kd.R_base ho30) hb); have HO576 := Aside0.mk (Kd.R_lower ho30 (below_size (Sq.bl HB))); replace HB := Sq.bs HB hb; clear hb ho30; obtain ⟨Ao32, co32, eo32⟩ := Kd.V_slice HO_11.out; subst eo32) | ((with_reducible refine gate_builtin (b := .append) (xs := #[.tmp 42, .tmp 43]) rfl ?_); at_builtin; refine Kd.R_append_rows Kd.bool (w0 := w) w.heap.size rfl (.tmp 42) (.tmp 43) 63 4 (.bool false) 1 rfl Try.underlying63 info4 rfl (by decide) (by omega) v575 y574 x11_2 _ _ _ (fun _ => True) (fun _ => False) rfl rfl ?aO ?aR (fun _ _ h => h) (fun _ h => h.elim) ?aF ?aB ?aS ?aL ?_; (case aR => exact Sq.ca (Kd.V_reads' HO_11.out).2.2); (case aB => exact (Sq.bl HB)); (case aF => exact (fun _ _ => trivial)); (case aO => exact (Sq.al HO576)); (case aS => exact (below_size (Sq.bl HB))); (case aL => have := LMc16.out; omega); intro v578 w31 ho hb hg hat; rw [← Ny577.out] at ho; replace HO_9 := Aside0.mk (Kd.V_afterv (ok := (fun _ => True)) (Sq.al HO_9) hg hat); replace HO_10 := Aside0.mk (Kd.V_afterv (ok := (fun _ => True)) (Sq.al HO_10) hg hat); replace HO_11 := Aside0.mk (Kd.V_afterv (ok := (fun _ => True)) (Sq.al HO_11) hg hat); replace HB := Aside0.mk (hb); have HO579 := Aside0.mk (ho); clear HO576; clear ho hb hg hat; have p580 : 0 ≤ (x12_2 : Int) := of_decide_eq_true (by first | (with_reducible assumption) | assumption); have q580 : x12_2 < (t571.length : Int) := of_decide_eq_true (by first | (with_reducible assumption) | assumption); obtain ⟨ad580, e580, hx580_0⟩ := Kd.at_bool (Kd.V_reads' HO_10.out).2.2 x12_2 p580 q580; (try rw [← Nbq19.out] at hx580_0); cases e580; replace p580 := eq_true p580; replace q580 := eq_true q580))
        go_roundg k2
        case measure => have := HJ4.out; have := HK2.out; omega
        case rel => exact ⟨(y577), (wrap64 (x12_2 - 1)), (by first | rfl | (simp; done) | (simp [*]; done)), H', ⟨by have := HJ4.out; have := HK2.out; omega⟩, ⟨by (with_reducible repeat (first | apply Kd.V_alloc | apply Kd.V_drewN | apply Kd.V_drew)); exact Kd.V_mono HO_9.out (fun _ hk => trivial)⟩, ⟨by (with_reducible repeat (first | apply Kd.V_alloc | apply Kd.V_drewN | apply Kd.V_drew)); exact Kd.V_mono HO_10.out (fun _ hk => trivial)⟩, ⟨Kd.R_V (Sq.al HO579)⟩, ⟨Sq.bl HB⟩⟩
      ·rw [if_neg c15] at H
       have c15b0 : decide (0 ≤ x12_2) = false := decide_eq_false c15
       clear c15
       replace H := Sq.bd H
       obtain ⟨t584, A33, H⟩ := H
       (try dsimp -simprocs only at H)
       obtain rfl := Option.some.inj H
       obtain ⟨Ao34, co34, eo34⟩ := Kd.V_slice HO_11.out
       subst eo34
       go_wp2_with (first | ((with_reducible refine gate_callee (f := 137) rfl ?_); refine Sq.gl (some 53) Try.func137 #[.slice Ao34 x11_2.length co34] ?_; (with_reducible refine (foliotref01_Limbs.calls k2 _ _ x11_2 t584 _ ?side1 ?side2 A33.out).mono ?_); (case side1 => exact Sq.ca (Kd.V_reads' HO_11.out).2.2); (case side2 => exact (Kd.V_reads' HO_11.out).2.1); rintro e w35 ⟨v585, rfl, ho0, hb⟩; refine ⟨_, rfl, ?_⟩; replace HO_9 := Aside0.mk (Kd.V_elder' (Sq.al HO_9) (Kd.R_base ho0) hb); replace HO_10 := Aside0.mk (Kd.V_elder' (Sq.al HO_10) (Kd.R_base ho0) hb); replace HO_11 := Aside0.mk (Kd.V_elder' (Sq.al HO_11) (Kd.R_base ho0) hb); have HO586 := Aside0.mk (Kd.R_lower ho0 (below_size (Sq.bl HB))); replace HB := Sq.bs HB hb; (try clear hb); (try clear hb2); (try clear hk); (try clear hi); (try clear ho0)))
       go_ret
       exact ⟨_, by first | rfl | (simp [errW_none, errW_some] <;> rfl) | (simp [*, errW_none, errW_some] <;> rfl), by (with_reducible repeat (first | apply Kd.R_alloc | apply Kd.R_drewN | apply Kd.R_drew)); exact HO586.out, Sq.bl HB⟩
end Go.Proofs.Ytaclkccgjpjdjaa.N
