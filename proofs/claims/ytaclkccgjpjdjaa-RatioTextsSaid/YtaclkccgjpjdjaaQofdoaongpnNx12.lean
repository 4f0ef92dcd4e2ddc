import Derived.Test.YtaclkccgjpjdjaaQemgcbmfiflNx0
import Derived.Test.YtaclkccgjpjdjaaQempeaoghicNx9
import Derived.Test.YtaclkccgjpjdjaaQabdngfielaNx10
import Derived.Test.YtaclkccgjpjdjaaQpbgibbbgddM
namespace Go.Proofs.Ytaclkccgjpjdjaa.N
open Go.RowKit Go.Proofs.YtaclkccgjpjdjaaW.PrintWords Go.Proofs.YtaclkccgjpjdjaaW.PrintLast Go.Proofs.YtaclkccgjpjdjaaW.PrintMore
attribute [local go_sem] max2_int min2_int max_two min_two max_three min_three max_four min_four   -- for this text's walks alone
set_option linter.unusedVariables false
set_option linter.unusedSimpArgs false
theorem wrap_u8_u32 (x : Int) : x % 256 = IntKind.u32.wrap (IntKind.u8.wrap x) := by
 simp only [IntKind.wrap, IntKind.signed, IntKind.bits]; simp; omega
mutual
def foliotref01_Parse.l0 : Nat → ByteArray → Int → Option (List Int × Int)
 | 0, _, _ => none
 | k + 1, x0, x4 => if x4 < (x0.size : Int) then (if 0 ≤ x4 then (if (bt x0 x4) < 48 then (some (([] : List Int), 4)) else (if (bt x0 x4) > 57 then (some (([] : List Int), 4)) else (foliotref01_Parse.l0 k x0 (wrap64 (x4 + 1))))) else (none)) else (if (x0.size : Int) > 300 then (some (([] : List Int), 2)) else (if (x0.size : Int) ≤ 18 then (foliotref01_Parse.l1 k x0 0 0) else (foliotref01_Parse.l2 k x0 ([] : List Int) 0)))
def foliotref01_Parse.l1 : Nat → ByteArray → Int → Int → Option (List Int × Int)
 | 0, _, _, _ => none
 | k + 1, x0, x5, x6 => if x6 < (x0.size : Int) then (if 0 ≤ x6 then (foliotref01_Parse.l1 k x0 (IntKind.u64.wrap ((IntKind.u64.wrap (10 * x5)) + (((bt x0 x6) - 48) % 256))) (wrap64 (x6 + 1))) else (none)) else ((foliotref01_limbs.f k x5).bind fun t708 => (some (t708, 0)))
def foliotref01_Parse.l2 : Nat → ByteArray → List Int → Int → Option (List Int × Int)
 | 0, _, _, _ => none
 | k + 1, x0, x7, x8 => if x8 < (x0.size : Int) then ((foliotref01_Mul.f k x7 (([10] : List Int))).bind fun t714 => (if 0 ≤ x8 then ((foliotref01_Add.f k t714 (([((bt x0 x8) - 48) % 256] : List Int))).bind fun t720 => (foliotref01_Parse.l2 k x0 t720 (wrap64 (x8 + 1)))) else (none))) else (some (x7, 0))
end
def foliotref01_Parse.f (k : Nat) (a0 : ByteArray) : Option (List Int × Int) := if a0.toList = ([] : List UInt8) then (some (([] : List Int), 4)) else (foliotref01_Parse.l0 k a0 0)
def foliotref01_Parse.T21 : Bool × List (List Nat × List Nat) := (true, [([], []), ([], []), ([0, 1], [0, 1]), ([], []), ([], []), ([3, 4], [3, 4]), ([5], [5]), ([6], [6]), ([7], [7]), ([2, 8, 2], [2, 8]), ([9, 9, 0, 1, 2, 3, 4, 5, 6, 7, 8, 9], [0, 9])])
def foliotref01_Parse.B21 : List Nat := [0, 0, 3, 0, 0, 24, 56, 120, 248, 511, 1023]
theorem foliotref01_Parse.tab21 : rtab .any (opsOf Try.f38 21) = foliotref01_Parse.T21 := by kernel_rfl
theorem foliotref01_Parse.bits21 : waitsOk foliotref01_Parse.T21.2 foliotref01_Parse.B21 = true := by kernel_rfl
set_option maxHeartbeats 8000000 in
set_option maxRecDepth 100000 in
theorem foliotref01_Parse.calls (k : Nat) (a0 : ByteArray) (r1 : List Int) (r2 : Int) (w : World) (h : foliotref01_Parse.f k a0 = some (r1, r2)) :
  Calls Try.prog 38 #[.string a0] w fun e w' => ∃ v0_ : Value, e = .returned (.tuple #[v0_, .int .i64 r2]) ∧ Kd.R (Kd.int .u32) 107 w' w.heap.size (fun _ => True) v0_ r1 ∧ Below w.heap.size w w' := by
 have HB := Aside0.mk (Below.refl w.heap.size w)
 have H : (if a0.toList = ([] : List UInt8) then (some (([] : List Int), 4)) else (foliotref01_Parse.l0 k a0 0)) = some (r1, r2) := h
 clear h
 by_cases c2 : a0.toList = ([] : List UInt8)
 ·rw [if_pos c2] at H
  have c2b0 : (a0.toList == ([] : List UInt8)) = true := beq_iff_eq.mpr c2
  have c2b1 : (a0.toList != ([] : List UInt8)) = false := bne_eq_false_iff_eq.mpr c2
  clear c2
  simp only [Option.some.injEq, Prod.mk.injEq] at H
  obtain ⟨rfl, rfl⟩ := H
  go_enter Try.func38, Try.ntmps38
  go_wp2
  go_ret2
  exact ⟨_, by first | rfl | (simp [errW_none, errW_some] <;> rfl) | (simp [*, errW_none, errW_some] <;> rfl), by first | exact Kd.R_nil _ _ _ _ _ | exact Kd.N_nil _ _ _ _ _ | exact Kd.V_nil _ _ _ _ _ | exact Kd.Q_nil _ _ _ _ _ | exact Kd.S_nil _ _ _ _ _, Sq.bl HB⟩
 ·rw [if_neg c2] at H
  have c2b0 : (a0.toList == ([] : List UInt8)) = false := beq_eq_false_iff_ne.mpr c2
  have c2b1 : (a0.toList != ([] : List UInt8)) = true := bne_iff_ne.mpr c2
  have H' := Aside0.mk H
  clear H
  go_enter Try.func38, Try.ntmps38
  go_wp2
  go_loopg [4] k (fun kq v4 w' => ∃ (x4_1 : Int), v4 = .int .i64 x4_1 ∧ Aside0 (foliotref01_Parse.l0 kq a0 x4_1 = some (r1, r2)) ∧ Aside0 (kq ≤ k) ∧ Aside0 (Below w.heap.size w w'))
  case atStart => exact ⟨(0), (by first | rfl | (simp; done) | (simp [*]; done)), H', ⟨Nat.le_refl _⟩, ⟨Sq.bl HB⟩⟩
  case round =>
   clear H'
   try clear c2
   try clear c2b0
   try clear c2b1
   try clear p2
   obtain ⟨x4_1, rfl, HA, HK1, HB⟩ := hrel
   cases gk with
   | zero => exact absurd HA.out (by simp [foliotref01_Parse.l0])
   | succ k1 =>
    have H := HA.out
    clear HA
    simp only [foliotref01_Parse.l0] at H
    by_cases c3 : x4_1 < (a0.size : Int)
    ·rw [if_pos c3] at H
     have c3b0 : decide (x4_1 < (a0.size : Int)) = true := decide_eq_true c3
     clear c3
     replace H := Sq.ifs H
     obtain ⟨c4, H⟩ := H
     have c4b0 : decide (0 ≤ x4_1) = true := decide_eq_true c4
     clear c4
     by_cases c6 : (bt a0 x4_1) < 48
     ·rw [if_pos c6] at H
      have c6b0 : decide ((bt a0 x4_1) < 48) = true := decide_eq_true c6
      clear c6
      simp only [Option.some.injEq, Prod.mk.injEq] at H
      obtain ⟨rfl, rfl⟩ := H
      have p5 : 0 ≤ (x4_1 : Int) := of_decide_eq_true (by first | (with_reducible assumption) | assumption)
      have q5 : x4_1 < (a0.size : Int) := of_decide_eq_true (by first | (with_reducible assumption) | assumption)
      have hx5 := bt_at a0 x4_1
      replace p5 := eq_true p5
      replace q5 := eq_true q5
      go_wp2
      go_ret2
      exact ⟨_, by first | rfl | (simp [errW_none, errW_some] <;> rfl) | (simp [*, errW_none, errW_some] <;> rfl), by first | exact Kd.R_nil _ _ _ _ _ | exact Kd.N_nil _ _ _ _ _ | exact Kd.V_nil _ _ _ _ _ | exact Kd.Q_nil _ _ _ _ _ | exact Kd.S_nil _ _ _ _ _, Sq.bl HB⟩
     ·rw [if_neg c6] at H
      have c6b0 : decide ((bt a0 x4_1) < 48) = false := decide_eq_false c6
      clear c6
      by_cases c8 : (bt a0 x4_1) > 57
      ·rw [if_pos c8] at H
       have c8b0 : decide (57 < (bt a0 x4_1)) = true := decide_eq_true c8
       clear c8
       simp only [Option.some.injEq, Prod.mk.injEq] at H
       obtain ⟨rfl, rfl⟩ := H
       have p5 : 0 ≤ (x4_1 : Int) := of_decide_eq_true (by first | (with_reducible assumption) | assumption)
       have q5 : x4_1 < (a0.size : Int) := of_decide_eq_true (by first | (with_reducible assumption) | assumption)
       have hx5 := bt_at a0 x4_1
       replace p5 := eq_true p5
       replace q5 := eq_true q5
       have p7 : 0 ≤ (x4_1 : Int) := of_decide_eq_true (by first | (with_reducible assumption) | assumption)
       have q7 : x4_1 < (a0.size : Int) := of_decide_eq_true (by first | (with_reducible assumption) | assumption)
       have hx7 := bt_at a0 x4_1
       replace p7 := eq_true p7
       replace q7 := eq_true q7
       go_wp2
       go_ret2
       exact ⟨_, by first | rfl | (simp [errW_none, errW_some] <;> rfl) | (simp [*, errW_none, errW_some] <;> rfl), by first | exact Kd.R_nil _ _ _ _ _ | exact Kd.N_nil _ _ _ _ _ | exact Kd.V_nil _ _ _ _ _ | exact Kd.Q_nil _ _ _ _ _ | exact Kd.S_nil _ _ _ _ _, Sq.bl HB⟩
      ·rw [if_neg c8] at H
       have c8b0 : decide (57 < (bt a0 x4_1)) = false := decide_eq_false c8
       clear c8
       have H' := Aside0.mk H
       clear H
       have p5 : 0 ≤ (x4_1 : Int) := of_decide_eq_true (by first | (with_reducible assumption) | assumption)
       have q5 : x4_1 < (a0.size : Int) := of_decide_eq_true (by first | (with_reducible assumption) | assumption)
       have hx5 := bt_at a0 x4_1
       replace p5 := eq_true p5
       replace q5 := eq_true q5
       have p7 : 0 ≤ (x4_1 : Int) := of_decide_eq_true (by first | (with_reducible assumption) | assumption)
       have q7 : x4_1 < (a0.size : Int) := of_decide_eq_true (by first | (with_reducible assumption) | assumption)
       have hx7 := bt_at a0 x4_1
       replace p7 := eq_true p7
       replace q7 := eq_true q7
       go_wp2
       go_roundg k1
       case measure => have := HK1.out; omega
       case rel => exact ⟨(wrap64 (x4_1 + 1)), (by first | rfl | (simp; done) | (simp [*]; done)), H', ⟨by have := HK1.out; omega⟩, ⟨Sq.bl HB⟩⟩
    ·rw [if_neg c3] at H
     have c3b0 : decide (x4_1 < (a0.size : Int)) = false := decide_eq_false c3
     clear c3
     by_cases c9 : (a0.size : Int) > 300
     ·rw [if_pos c9] at H
      have c9b0 : decide (300 < (a0.size : Int)) = true := decide_eq_true c9
      have c9b1 : decide (300 < a0.size) = true := decide_eq_true (by omega)
      clear c9
      simp only [Option.some.injEq, Prod.mk.injEq] at H
      obtain ⟨rfl, rfl⟩ := H
      go_wp2
      go_ret2
      exact ⟨_, by first | rfl | (simp [errW_none, errW_some] <;> rfl) | (simp [*, errW_none, errW_some] <;> rfl), by first | exact Kd.R_nil _ _ _ _ _ | exact Kd.N_nil _ _ _ _ _ | exact Kd.V_nil _ _ _ _ _ | exact Kd.Q_nil _ _ _ _ _ | exact Kd.S_nil _ _ _ _ _, Sq.bl HB⟩
     ·rw [if_neg c9] at H
      have c9b0 : decide (300 < (a0.size : Int)) = false := decide_eq_false c9
      have c9b1 : decide (300 < a0.size) = false := decide_eq_false (by omega)
      clear c9
      by_cases c10 : (a0.size : Int) ≤ 18
      ·rw [if_pos c10] at H
       have c10b0 : decide ((a0.size : Int) ≤ 18) = true := decide_eq_true c10
       have c10b1 : decide (a0.size ≤ 18) = true := decide_eq_true (by omega)
       clear c10
       have H' := Aside0.mk H
       clear H
       go_wp2
       go_loopg [5, 6] k1 (fun kq v5 v6 w' => ∃ (x5_2 : Int) (x6_2 : Int), v5 = .int .u64 x5_2 ∧ v6 = .int .i64 x6_2 ∧ Aside0 (foliotref01_Parse.l1 kq a0 x5_2 x6_2 = some (r1, r2)) ∧ Aside0 (kq ≤ k1) ∧ Aside0 (Below w.heap.size w w'))
       case atStart => exact ⟨(0), (0), (by first | rfl | (simp; done) | (simp [*]; done)), (by first | rfl | (simp; done) | (simp [*]; done)), H', ⟨Nat.le_refl _⟩, ⟨Sq.bl HB⟩⟩
       case round =>
        clear H'
        try clear c1
        try clear c2
        try clear c2b0
        try clear c2b1
        try clear p2
        try clear c3
        try clear c3b0
        try clear c4
        try clear c4b0
        try clear p5
        try clear q5
        try clear hx5
        try clear c6
        try clear c6b0
        try clear p6
        try clear p7
        try clear q7
        try clear hx7
        try clear c8
        try clear c8b0
        try clear c9
        try clear c9b0
        try clear c9b1
        try clear c10
        try clear c10b0
        try clear c10b1
        try clear p2
        try clear p5
        try clear p7
        try clear q5
        try clear q7
        obtain ⟨x5_2, x6_2, rfl, rfl, HA, HK2, HB⟩ := hrel
        cases gk with
        | zero => exact absurd HA.out (by simp [foliotref01_Parse.l1])
        | succ k2 =>
         have H := HA.out
         clear HA
         simp only [foliotref01_Parse.l1] at H
         by_cases c11 : x6_2 < (a0.size : Int)
         ·rw [if_pos c11] at H
          have c11b0 : decide (x6_2 < (a0.size : Int)) = true := decide_eq_true c11
          clear c11
          replace H := Sq.ifs H
          obtain ⟨c12, H⟩ := H
          have c12b0 : decide (0 ≤ x6_2) = true := decide_eq_true c12
          clear c12
          have H' := Aside0.mk H
          clear H
          have p13 : 0 ≤ (x6_2 : Int) := of_decide_eq_true (by first | (with_reducible assumption) | assumption)
          have q13 : x6_2 < (a0.size : Int) := of_decide_eq_true (by first | (with_reducible assumption) | assumption)
          have hx13 := bt_at a0 x6_2
          replace p13 := eq_true p13
          replace q13 := eq_true q13
          go_wp2
          go_roundg k2
          case measure => have := HK1.out; have := HK2.out; omega
          case rel => exact ⟨(IntKind.u64.wrap ((IntKind.u64.wrap (10 * x5_2)) + (((bt a0 x6_2) - 48) % 256))), (wrap64 (x6_2 + 1)), (by first | rfl | (simp; done) | (simp [*]; done)), (by first | rfl | (simp; done) | (simp [*]; done)), H', ⟨by have := HK1.out; have := HK2.out; omega⟩, ⟨Sq.bl HB⟩⟩
         ·rw [if_neg c11] at H
          have c11b0 : decide (x6_2 < (a0.size : Int)) = false := decide_eq_false c11
          clear c11
          replace H := Sq.bd H
          obtain ⟨t708, A14, H⟩ := H
          (try dsimp -simprocs only at H)
          simp only [Option.some.injEq, Prod.mk.injEq] at H
          obtain ⟨rfl, rfl⟩ := H
          go_wp2_with (first | ((with_reducible refine gate_callee (f := 140) rfl ?_); refine Sq.gl (some 48) Try.func140 #[.int .u64 x5_2] ?_; (with_reducible refine (foliotref01_limbs.calls k2 x5_2 t708 _ A14.out).mono ?_); rintro e w15 ⟨v709, rfl, ho0, hb⟩; refine ⟨_, rfl, ?_⟩; have HO710 := Aside0.mk (Kd.R_lower ho0 (below_size (Sq.bl HB))); replace HB := Sq.bs HB hb; (try clear hb); (try clear hb2); (try clear hk); (try clear hi); (try clear ho0)))
          go_ret2
          exact ⟨_, by first | rfl | (simp [errW_none, errW_some] <;> rfl) | (simp [*, errW_none, errW_some] <;> rfl), by (with_reducible repeat (first | apply Kd.R_alloc | apply Kd.R_drewN | apply Kd.R_drew)); exact HO710.out, Sq.bl HB⟩
      ·rw [if_neg c10] at H
       have c10b0 : decide ((a0.size : Int) ≤ 18) = false := decide_eq_false c10
       have c10b1 : decide (a0.size ≤ 18) = false := decide_eq_false (by omega)
       clear c10
       have H' := Aside0.mk H
       clear H
       go_wp2
       go_loopg [7, 8] k1 (fun kq v7 v8 w' => ∃ (x7_2 : List Int) (x8_2 : Int), v8 = .int .i64 x8_2 ∧ Aside0 (foliotref01_Parse.l2 kq a0 x7_2 x8_2 = some (r1, r2)) ∧ Aside0 (kq ≤ k1) ∧ Aside0 (Kd.R (Kd.int .u32) 107 w' w.heap.size (fun _ => True) v7 x7_2) ∧ Aside0 (Below w.heap.size w w'))
       case atStart => exact ⟨(([] : List Int)), (0), (by first | rfl | (simp; done) | (simp [*]; done)), H', ⟨Nat.le_refl _⟩, ⟨by first | exact Kd.R_nil _ _ _ _ _ | exact Kd.N_nil _ _ _ _ _ | exact Kd.V_nil _ _ _ _ _ | exact Kd.Q_nil _ _ _ _ _ | exact Kd.S_nil _ _ _ _ _⟩, ⟨Sq.bl HB⟩⟩
       case round =>
        clear H'
        try clear c1
        try clear p1
        try clear q1
        try clear hx1
        try clear c2
        try clear c2b0
        try clear c2b1
        try clear p2
        try clear c3
        try clear c3b0
        try clear c4
        try clear c4b0
        try clear p5
        try clear q5
        try clear hx5
        try clear c6
        try clear c6b0
        try clear p6
        try clear p7
        try clear q7
        try clear hx7
        try clear c8
        try clear c8b0
        try clear c9
        try clear c9b0
        try clear c9b1
        try clear c10
        try clear c10b0
        try clear c10b1
        try clear c11
        try clear c11b0
        try clear c12
        try clear c12b0
        try clear p13
        try clear q13
        try clear hx13
        try clear c14
        try clear p13
        try clear p2
        try clear p5
        try clear p6
        try clear p7
        try clear q13
        try clear q5
        try clear q7
        obtain ⟨x7_2, x8_2, rfl, HA, HK2, HO_7, HB⟩ := hrel
        cases gk with
        | zero => exact absurd HA.out (by simp [foliotref01_Parse.l2])
        | succ k2 =>
         have H := HA.out
         clear HA
         simp only [foliotref01_Parse.l2] at H
         by_cases c16 : x8_2 < (a0.size : Int)
         ·rw [if_pos c16] at H
          have c16b0 : decide (x8_2 < (a0.size : Int)) = true := decide_eq_true c16
          clear c16
          obtain ⟨y711, hy711⟩ : ∃ y_ : List Int, y_ = (([10] : List Int)) := ⟨_, rfl⟩
          (first | (replace H := Sq.ny hy711 H; (try dsimp -simprocs only at H)) | rw [← hy711] at H | skip)
          have Ny711 := Aside0.mk hy711
          clear hy711
          replace H := Sq.bd H
          obtain ⟨t714, A17, H⟩ := H
          (try dsimp -simprocs only at H)
          replace H := Sq.ifs H
          obtain ⟨c18, H⟩ := H
          have c18b0 : decide (0 ≤ x8_2) = true := decide_eq_true c18
          clear c18
          obtain ⟨y717, hy717⟩ : ∃ y_ : List Int, y_ = (([((bt a0 x8_2) - 48) % 256] : List Int)) := ⟨_, rfl⟩
          (first | (replace H := Sq.ny hy717 H; (try dsimp -simprocs only at H)) | rw [← hy717] at H | skip)
          have Ny717 := Aside0.mk hy717
          clear hy717
          replace H := Sq.bd H
          obtain ⟨t720, A20, H⟩ := H
          (try dsimp -simprocs only at H)
          have H' := Aside0.mk H
          clear H
          obtain ⟨Ao21, co21, eo21⟩ := Kd.R_slice HO_7.out
          subst eo21
          try go_wp2
          replace HO_7 := Aside0.mk (Kd.R_drew HO_7.out)
          replace HB := Aside0.mk (below_drew1 HB.out)
          have p19 : 0 ≤ (x8_2 : Int) := of_decide_eq_true (by first | (with_reducible assumption) | assumption)
          have q19 : x8_2 < (a0.size : Int) := of_decide_eq_true (by first | (with_reducible assumption) | assumption)
          have hx19 := bt_at a0 x8_2
          replace p19 := eq_true p19
          replace q19 := eq_true q19
          refine start_ (n := 11) (S := fun w' => True) (ds := []) #[false, false, false, false, false, false, false, false, false, false, false] (by kernel_rfl) rfl rfl trivial (fun hHeld => ?_); refine with_tabW foliotref01_Parse.tab21 foliotref01_Parse.bits21 (fun HT_ HW_ => ?_)
          generalize wr.drew = w22 at HO_7 HB hHeld ⊢
          refine Sq.pu (v := ?_) (a' := ?_) 0 (some 55) #[true, false, false, false, false, false, false, false, false, false, false] HT_ ?_ ?_ ?_
          rotate_left
          ·intro w'
           go_simp
           with_reducible rfl
          rotate_left
          ·simp only [Act.put, List.setIfInBounds_toArray, List.set_cons_zero, List.set_cons_succ, i64_w, i32_w]
           rfl
          refine Sq.pu (v := ?_) (a' := ?_) 3 (some 58) #[true, false, false, true, false, false, false, false, false, false, false] HT_ ?_ ?_ ?_
          rotate_left
          ·intro w'
           go_simp
           with_reducible rfl
          rotate_left
          ·simp only [Act.put, List.setIfInBounds_toArray, List.set_cons_zero, List.set_cons_succ, i64_w, i32_w]
           rfl
          refine Sq.pu (v := ?_) (a' := ?_) 4 (some 59) #[true, false, false, true, true, false, false, false, false, false, false] HT_ ?_ ?_ ?_
          rotate_left
          ·intro w'
           go_simp
           with_reducible rfl
          rotate_left
          ·simp only [Act.put, List.setIfInBounds_toArray, List.set_cons_zero, List.set_cons_succ, i64_w, i32_w]
           rfl
          refine Sq.tk (v := ?_) (a' := ?_) 5 (some 60) #[true, false, false, true, true, true, false, false, false, false, false] HT_ HW_ hHeld ?_ ?_ ?_
          rotate_left
          ·intro w' _
           go_simp
           with_reducible rfl
          rotate_left
          ·simp only [Act.put, List.setIfInBounds_toArray, List.set_cons_zero, List.set_cons_succ, i64_w, i32_w]
           rfl
          refine Sq.pu (v := ?_) (a' := ?_) 6 (some 61) #[true, false, false, true, true, true, true, false, false, false, false] HT_ ?_ ?_ ?_
          rotate_left
          ·intro w'
           go_simp
           with_reducible rfl
          rotate_left
          ·simp only [Act.put, List.setIfInBounds_toArray, List.set_cons_zero, List.set_cons_succ, i64_w, i32_w]
           rfl
          refine Sq.pu (v := ?_) (a' := ?_) 7 (some 62) #[true, false, false, true, true, true, true, true, false, false, false] HT_ ?_ ?_ ?_
          rotate_left
          ·intro w'
           go_simp
           with_reducible rfl
          rotate_left
          ·simp only [Act.put, List.setIfInBounds_toArray, List.set_cons_zero, List.set_cons_succ, i64_w, i32_w]
           rfl
          refine join_ (σ := Value × Value × Value) 2 #[true, true, true, true, true, true, true, true, true, false, false] (fun s_ => [(56, s_.1), (57, s_.2.1), (63, s_.2.2)]) (fun s_ w' => (Kd.R (Kd.int .u32) 107 w' w.heap.size (fun k_ => some k_ ≠ (s_.2.1 : Value).ownBlock ∧ some k_ ≠ (s_.2.2 : Value).ownBlock ∧ some k_ ≠ (.slice Ao21 x7_2.length co21 : Value).ownBlock) s_.1 y711) ∧ (Kd.R (Kd.int .u32) 107 w' w.heap.size (fun k_ => some k_ ≠ (s_.1 : Value).ownBlock ∧ some k_ ≠ (s_.2.2 : Value).ownBlock ∧ some k_ ≠ (.slice Ao21 x7_2.length co21 : Value).ownBlock) s_.2.1 t714) ∧ (Kd.R (Kd.int .u32) 107 w' w.heap.size (fun k_ => some k_ ≠ (s_.1 : Value).ownBlock ∧ some k_ ≠ (s_.2.1 : Value).ownBlock ∧ some k_ ≠ (.slice Ao21 x7_2.length co21 : Value).ownBlock) s_.2.2 y717) ∧ (Kd.R (Kd.int .u32) 107 w' w.heap.size (fun k_ => some k_ ≠ (s_.1 : Value).ownBlock ∧ some k_ ≠ (s_.2.1 : Value).ownBlock ∧ some k_ ≠ (s_.2.2 : Value).ownBlock) (.slice Ao21 x7_2.length co21) x7_2) ∧ (Below w.heap.size w w')) ?_ ?_
          rotate_left
          ·intro hCont
           refine two_ (i := 1) (j := 8) (Ni := some 56) (Nj := some 63) #[true, true, false, true, true, true, true, true, false, false, false] #[true, false, false, true, true, true, true, true, true, false, false] rfl rfl rfl rfl (two_of HT_.out (by kernel_rfl)) (by decide) (by decide) (fun K hK => ?_) (fun K hK => ?_)
           ·skip
            refine Kd.R_lit_step (Kd.int .u32) _ 107 ?hg (N := 56) ?hd (xs := ([10] : List Int)) (inner := [.int .u32 10]) (ok := fun _ => True) (okp := fun _ => True) ?hr ?hp (fun _ hk => hk) trivial (Below.refl _ _) (Nat.le_refl _) (by simp) ?_; (case hd => rfl); (case hg => rfl); (case hr => first | (go_simp; done) | (go_simp; rfl) | (go_simp; rw [← wrap_u8_u32]) | (go_simp; rw [← wrap_u8_u32]; rfl)); (case hp => exact (Reps.one (show Kd.M (Kd.int .u32) _ _ _ 10 [.int .u32 10] from rfl) (Reps.none _ _)))
            intro v712 w23 ho24 hb hg_ hnew_
            clear hg_ hnew_
            (first | rw [← Ny711.out] at ho24 | (simp only [Int.reduceToNat] at ho24; rw [← Ny711.out] at ho24))
            have HO713 := Aside0.mk (Kd.R_lower (Kd.R_new' ho24 (Kd.R_lt (Sq.al HO_7))) (below_size (Sq.bl HB)))
            replace HO_7 := Aside0.mk (Kd.R_elder' (Sq.al HO_7) (Kd.R_base ho24) hb)
            replace HB := Sq.bs HB hb
            clear hb ho24
            obtain ⟨Ao25, co25, eo25⟩ := Kd.R_slice HO713.out
            (first | subst eo25 | (injection eo25 with f1_ f2_ f3_; have f4_ := f1_.symm; have f5_ := f3_.symm; clear f1_ f2_ f3_; subst f4_; subst f5_))
            refine hK.out _ _ trivial (fun hHeld => ?_)
            clear hK K
            refine norm_ (a' := ?_) ?_ ?_
            rotate_left
            ·show Act.put _ (some 56) _ = _
             simp only [Act.put, List.setIfInBounds_toArray, List.set_cons_zero, List.set_cons_succ, i64_w, i32_w]
             rfl
            refine two_ (i := 2) (j := 8) (Ni := some 57) (Nj := some 63) #[true, true, true, true, true, true, true, true, false, false, false] #[true, true, false, true, true, true, true, true, true, false, false] rfl rfl rfl rfl (two_of HT_.out (by kernel_rfl)) (by decide) (by decide) (fun K hK => ?_) (fun K hK => ?_)
            ·skip
             refine goes_ Try.func48 (by kernel_rfl) rfl #[.slice Ao21 x7_2.length co21, .slice Ao25 y711.length co25] (by rfl) rfl rfl (by (try simp only [List.map_toArray, List.map_cons, List.map_nil]); first | done | rfl | (simp only [List.length_drop, List.length_take]; rfl)) ?_
             with_reducible refine (foliotref01_Mul.calls k2 _ _ x7_2 _ _ y711 t714 _ ?side1 ?side2 ?side3 ?side4 A17.out).mono ?_
             (case side1 => exact Sq.ca (Kd.R_reads' HO_7.out).2.2)
             (case side2 => exact (Kd.R_reads' HO_7.out).2.1)
             (case side3 => exact Sq.ca (Kd.R_reads' HO713.out).2.2)
             (case side4 => exact (Kd.R_reads' HO713.out).2.1)
             rintro e w26 ⟨v715, rfl, ho0, hb⟩
             refine ⟨_, rfl, ?_⟩
             have HO716 := Aside0.mk (Kd.R_lower (Kd.R_new' (Kd.R_new' ho0 (Kd.R_lt (Sq.al HO_7))) (Kd.R_lt (Sq.al HO713))) (below_size (Sq.bl HB)))
             replace HO_7 := Aside0.mk (Kd.R_elder' (Sq.al HO_7) (Kd.R_base ho0) hb)
             replace HO713 := Aside0.mk (Kd.R_elder' (Sq.al HO713) (Kd.R_base ho0) hb)
             replace HB := Sq.bs HB hb
             (try clear hb)
             (try clear hb2)
             (try clear hk)
             (try clear hi)
             (try clear ho0)
             refine hK.out _ _ trivial (fun hHeld => ?_)
             clear hK K
             refine norm_ (a' := ?_) ?_ ?_
             rotate_left
             ·show Act.put _ (some 57) _ = _
              simp only [Act.put, List.setIfInBounds_toArray, List.set_cons_zero, List.set_cons_succ, i64_w, i32_w]
              rfl
             refine one_ (i := 8) (N := some 63) #[true, true, true, true, true, true, true, true, true, false, false] rfl rfl (one_of HT_.out (by kernel_rfl)) (by decide) (fun K hK => ?_)
             refine Kd.R_lit_step (Kd.int .u32) _ 107 ?hg (N := 63) ?hd (xs := ([((bt a0 x8_2) - 48) % 256] : List Int)) (inner := [.int .u32 (((bt a0 x8_2) - 48) % 256)]) (ok := fun _ => True) (okp := fun _ => True) ?hr ?hp (fun _ hk => hk) trivial (Below.refl _ _) (Nat.le_refl _) (by simp) ?_; (case hd => rfl); (case hg => rfl); (case hr => first | (go_simp; done) | (go_simp; rfl) | (go_simp; rw [← wrap_u8_u32]) | (go_simp; rw [← wrap_u8_u32]; rfl)); (case hp => exact (Reps.one (show Kd.M (Kd.int .u32) _ _ _ (((bt a0 x8_2) - 48) % 256) [.int .u32 (((bt a0 x8_2) - 48) % 256)] from rfl) (Reps.none _ _)))
             intro v718 w27 ho28 hb hg_ hnew_
             clear hg_ hnew_
             (first | rw [← Ny717.out] at ho28 | (simp only [Int.reduceToNat] at ho28; rw [← Ny717.out] at ho28))
             have HO719 := Aside0.mk (Kd.R_lower (Kd.R_new' (Kd.R_new' (Kd.R_new' ho28 (Kd.R_lt (Sq.al HO_7))) (Kd.R_lt (Sq.al HO713))) (Kd.R_lt (Sq.al HO716))) (below_size (Sq.bl HB)))
             replace HO_7 := Aside0.mk (Kd.R_elder' (Sq.al HO_7) (Kd.R_base ho28) hb)
             replace HO713 := Aside0.mk (Kd.R_elder' (Sq.al HO713) (Kd.R_base ho28) hb)
             replace HO716 := Aside0.mk (Kd.R_elder' (Sq.al HO716) (Kd.R_base ho28) hb)
             replace HB := Sq.bs HB hb
             clear hb ho28
             refine hK.out _ _ trivial (fun hHeld => ?_)
             clear hK K
             refine norm_ (a' := ?_) ?_ ?_
             rotate_left
             ·show Act.put _ (some 63) _ = _
              simp only [Act.put, List.setIfInBounds_toArray, List.set_cons_zero, List.set_cons_succ, i64_w, i32_w]
              rfl
             exact norm_ (by simp only [putAll, Act.put, List.setIfInBounds_toArray, List.set_cons_zero, List.set_cons_succ]) (hCont (.slice Ao25 y711.length co25, v715, v718) _ ⟨(by (with_reducible repeat (first | apply Kd.R_alloc | apply Kd.R_drewN | apply Kd.R_drew)); exact Kd.R_mono HO713.out (fun _ hk => ⟨hk.1.2, ⟨hk.2, hk.1.1.2⟩⟩)), (by (with_reducible repeat (first | apply Kd.R_alloc | apply Kd.R_drewN | apply Kd.R_drew)); exact Kd.R_mono HO716.out (fun _ hk => ⟨hk.1.2, ⟨hk.2, hk.1.1.2⟩⟩)), (by (with_reducible repeat (first | apply Kd.R_alloc | apply Kd.R_drewN | apply Kd.R_drew)); exact Kd.R_mono HO719.out (fun _ hk => ⟨hk.1.2, ⟨hk.2, hk.1.1.2⟩⟩)), (by (with_reducible repeat (first | apply Kd.R_alloc | apply Kd.R_drewN | apply Kd.R_drew)); exact Kd.R_mono HO_7.out (fun _ hk => ⟨hk.1.1.2, ⟨hk.1.2, hk.2⟩⟩)), (Sq.bl HB)⟩)
            ·skip
             refine Kd.R_lit_step (Kd.int .u32) _ 107 ?hg (N := 63) ?hd (xs := ([((bt a0 x8_2) - 48) % 256] : List Int)) (inner := [.int .u32 (((bt a0 x8_2) - 48) % 256)]) (ok := fun _ => True) (okp := fun _ => True) ?hr ?hp (fun _ hk => hk) trivial (Below.refl _ _) (Nat.le_refl _) (by simp) ?_; (case hd => rfl); (case hg => rfl); (case hr => first | (go_simp; done) | (go_simp; rfl) | (go_simp; rw [← wrap_u8_u32]) | (go_simp; rw [← wrap_u8_u32]; rfl)); (case hp => exact (Reps.one (show Kd.M (Kd.int .u32) _ _ _ (((bt a0 x8_2) - 48) % 256) [.int .u32 (((bt a0 x8_2) - 48) % 256)] from rfl) (Reps.none _ _)))
             intro v718 w25 ho26 hb hg_ hnew_
             clear hg_ hnew_
             (first | rw [← Ny717.out] at ho26 | (simp only [Int.reduceToNat] at ho26; rw [← Ny717.out] at ho26))
             have HO719 := Aside0.mk (Kd.R_lower (Kd.R_new' (Kd.R_new' ho26 (Kd.R_lt (Sq.al HO_7))) (Kd.R_lt (Sq.al HO713))) (below_size (Sq.bl HB)))
             replace HO_7 := Aside0.mk (Kd.R_elder' (Sq.al HO_7) (Kd.R_base ho26) hb)
             replace HO713 := Aside0.mk (Kd.R_elder' (Sq.al HO713) (Kd.R_base ho26) hb)
             replace HB := Sq.bs HB hb
             clear hb ho26
             obtain ⟨Ao27, co27, eo27⟩ := Kd.R_slice HO713.out
             (first | subst eo27 | (injection eo27 with f1_ f2_ f3_; have f4_ := f1_.symm; have f5_ := f3_.symm; clear f1_ f2_ f3_; subst f4_; subst f5_))
             refine hK.out _ _ trivial (fun hHeld => ?_)
             clear hK K
             refine norm_ (a' := ?_) ?_ ?_
             rotate_left
             ·show Act.put _ (some 63) _ = _
              simp only [Act.put, List.setIfInBounds_toArray, List.set_cons_zero, List.set_cons_succ, i64_w, i32_w]
              rfl
             refine one_ (i := 2) (N := some 57) #[true, true, true, true, true, true, true, true, true, false, false] rfl rfl (one_of HT_.out (by kernel_rfl)) (by decide) (fun K hK => ?_)
             refine goes_ Try.func48 (by kernel_rfl) rfl #[.slice Ao21 x7_2.length co21, .slice Ao27 y711.length co27] (by rfl) rfl rfl (by (try simp only [List.map_toArray, List.map_cons, List.map_nil]); first | done | rfl | (simp only [List.length_drop, List.length_take]; rfl)) ?_
             with_reducible refine (foliotref01_Mul.calls k2 _ _ x7_2 _ _ y711 t714 _ ?side1 ?side2 ?side3 ?side4 A17.out).mono ?_
             (case side1 => exact Sq.ca (Kd.R_reads' HO_7.out).2.2)
             (case side2 => exact (Kd.R_reads' HO_7.out).2.1)
             (case side3 => exact Sq.ca (Kd.R_reads' HO713.out).2.2)
             (case side4 => exact (Kd.R_reads' HO713.out).2.1)
             rintro e w28 ⟨v715, rfl, ho0, hb⟩
             refine ⟨_, rfl, ?_⟩
             have HO716 := Aside0.mk (Kd.R_lower (Kd.R_new' (Kd.R_new' (Kd.R_new' ho0 (Kd.R_lt (Sq.al HO_7))) (Kd.R_lt (Sq.al HO713))) (Kd.R_lt (Sq.al HO719))) (below_size (Sq.bl HB)))
             replace HO_7 := Aside0.mk (Kd.R_elder' (Sq.al HO_7) (Kd.R_base ho0) hb)
             replace HO713 := Aside0.mk (Kd.R_elder' (Sq.al HO713) (Kd.R_base ho0) hb)
             replace HO719 := Aside0.mk (Kd.R_elder' (Sq.al HO719) (Kd.R_base ho0) hb)
             replace HB := Sq.bs HB hb
             (try clear hb)
             (try clear hb2)
             (try clear hk)
             (try clear hi)
             (try clear ho0)
             refine hK.out _ _ trivial (fun hHeld => ?_)
             clear hK K
             refine norm_ (a' := ?_) ?_ ?_
             rotate_left
             ·show Act.put _ (some 57) _ = _
              simp only [Act.put, List.setIfInBounds_toArray, List.set_cons_zero, List.set_cons_succ, i64_w, i32_w]
              rfl
             exact norm_ (by simp only [putAll, Act.put, List.setIfInBounds_toArray, List.set_cons_zero, List.set_cons_succ]) (hCont (.slice Ao27 y711.length co27, v715, v718) _ ⟨(by (with_reducible repeat (first | apply Kd.R_alloc | apply Kd.R_drewN | apply Kd.R_drew)); exact Kd.R_mono HO713.out (fun _ hk => ⟨hk.2, ⟨hk.1.2, hk.1.1.2⟩⟩)), (by (with_reducible repeat (first | apply Kd.R_alloc | apply Kd.R_drewN | apply Kd.R_drew)); exact Kd.R_mono HO716.out (fun _ hk => ⟨hk.1.2, ⟨hk.2, hk.1.1.2⟩⟩)), (by (with_reducible repeat (first | apply Kd.R_alloc | apply Kd.R_drewN | apply Kd.R_drew)); exact Kd.R_mono HO719.out (fun _ hk => ⟨hk.1.2, ⟨hk.2, hk.1.1.2⟩⟩)), (by (with_reducible repeat (first | apply Kd.R_alloc | apply Kd.R_drewN | apply Kd.R_drew)); exact Kd.R_mono HO_7.out (fun _ hk => ⟨hk.1.1.2, ⟨hk.2, hk.1.2⟩⟩)), (Sq.bl HB)⟩)
           ·skip
            refine Kd.R_lit_step (Kd.int .u32) _ 107 ?hg (N := 63) ?hd (xs := ([((bt a0 x8_2) - 48) % 256] : List Int)) (inner := [.int .u32 (((bt a0 x8_2) - 48) % 256)]) (ok := fun _ => True) (okp := fun _ => True) ?hr ?hp (fun _ hk => hk) trivial (Below.refl _ _) (Nat.le_refl _) (by simp) ?_; (case hd => rfl); (case hg => rfl); (case hr => first | (go_simp; done) | (go_simp; rfl) | (go_simp; rw [← wrap_u8_u32]) | (go_simp; rw [← wrap_u8_u32]; rfl)); (case hp => exact (Reps.one (show Kd.M (Kd.int .u32) _ _ _ (((bt a0 x8_2) - 48) % 256) [.int .u32 (((bt a0 x8_2) - 48) % 256)] from rfl) (Reps.none _ _)))
            intro v718 w23 ho24 hb hg_ hnew_
            clear hg_ hnew_
            (first | rw [← Ny717.out] at ho24 | (simp only [Int.reduceToNat] at ho24; rw [← Ny717.out] at ho24))
            have HO719 := Aside0.mk (Kd.R_lower (Kd.R_new' ho24 (Kd.R_lt (Sq.al HO_7))) (below_size (Sq.bl HB)))
            replace HO_7 := Aside0.mk (Kd.R_elder' (Sq.al HO_7) (Kd.R_base ho24) hb)
            replace HB := Sq.bs HB hb
            clear hb ho24
            refine hK.out _ _ trivial (fun hHeld => ?_)
            clear hK K
            refine norm_ (a' := ?_) ?_ ?_
            rotate_left
            ·show Act.put _ (some 63) _ = _
             simp only [Act.put, List.setIfInBounds_toArray, List.set_cons_zero, List.set_cons_succ, i64_w, i32_w]
             rfl
            refine one_ (i := 1) (N := some 56) #[true, true, false, true, true, true, true, true, true, false, false] rfl rfl (one_of HT_.out (by kernel_rfl)) (by decide) (fun K hK => ?_)
            refine Kd.R_lit_step (Kd.int .u32) _ 107 ?hg (N := 56) ?hd (xs := ([10] : List Int)) (inner := [.int .u32 10]) (ok := fun _ => True) (okp := fun _ => True) ?hr ?hp (fun _ hk => hk) trivial (Below.refl _ _) (Nat.le_refl _) (by simp) ?_; (case hd => rfl); (case hg => rfl); (case hr => first | (go_simp; done) | (go_simp; rfl) | (go_simp; rw [← wrap_u8_u32]) | (go_simp; rw [← wrap_u8_u32]; rfl)); (case hp => exact (Reps.one (show Kd.M (Kd.int .u32) _ _ _ 10 [.int .u32 10] from rfl) (Reps.none _ _)))
            intro v712 w25 ho26 hb hg_ hnew_
            clear hg_ hnew_
            (first | rw [← Ny711.out] at ho26 | (simp only [Int.reduceToNat] at ho26; rw [← Ny711.out] at ho26))
            have HO713 := Aside0.mk (Kd.R_lower (Kd.R_new' (Kd.R_new' ho26 (Kd.R_lt (Sq.al HO_7))) (Kd.R_lt (Sq.al HO719))) (below_size (Sq.bl HB)))
            replace HO_7 := Aside0.mk (Kd.R_elder' (Sq.al HO_7) (Kd.R_base ho26) hb)
            replace HO719 := Aside0.mk (Kd.R_elder' (Sq.al HO719) (Kd.R_base ho26) hb)
            replace HB := Sq.bs HB hb
            clear hb ho26
            obtain ⟨Ao27, co27, eo27⟩ := Kd.R_slice HO713.out
            (first | subst eo27 | (injection eo27 with f1_ f2_ f3_; have f4_ := f1_.symm; have f5_ := f3_.symm; clear f1_ f2_ f3_; subst f4_; subst f5_))
            refine hK.out _ _ trivial (fun hHeld => ?_)
            clear hK K
            refine norm_ (a' := ?_) ?_ ?_
            rotate_left
            ·show Act.put _ (some 56) _ = _
             simp only [Act.put, List.setIfInBounds_toArray, List.set_cons_zero, List.set_cons_succ, i64_w, i32_w]
             rfl
            refine one_ (i := 2) (N := some 57) #[true, true, true, true, true, true, true, true, true, false, false] rfl rfl (one_of HT_.out (by kernel_rfl)) (by decide) (fun K hK => ?_)
            refine goes_ Try.func48 (by kernel_rfl) rfl #[.slice Ao21 x7_2.length co21, .slice Ao27 y711.length co27] (by rfl) rfl rfl (by (try simp only [List.map_toArray, List.map_cons, List.map_nil]); first | done | rfl | (simp only [List.length_drop, List.length_take]; rfl)) ?_
            with_reducible refine (foliotref01_Mul.calls k2 _ _ x7_2 _ _ y711 t714 _ ?side1 ?side2 ?side3 ?side4 A17.out).mono ?_
            (case side1 => exact Sq.ca (Kd.R_reads' HO_7.out).2.2)
            (case side2 => exact (Kd.R_reads' HO_7.out).2.1)
            (case side3 => exact Sq.ca (Kd.R_reads' HO713.out).2.2)
            (case side4 => exact (Kd.R_reads' HO713.out).2.1)
            rintro e w28 ⟨v715, rfl, ho0, hb⟩
            refine ⟨_, rfl, ?_⟩
            have HO716 := Aside0.mk (Kd.R_lower (Kd.R_new' (Kd.R_new' (Kd.R_new' ho0 (Kd.R_lt (Sq.al HO_7))) (Kd.R_lt (Sq.al HO719))) (Kd.R_lt (Sq.al HO713))) (below_size (Sq.bl HB)))
            replace HO_7 := Aside0.mk (Kd.R_elder' (Sq.al HO_7) (Kd.R_base ho0) hb)
            replace HO719 := Aside0.mk (Kd.R_elder' (Sq.al HO719) (Kd.R_base ho0) hb)
            replace HO713 := Aside0.mk (Kd.R_elder' (Sq.al HO713) (Kd.R_base ho0) hb)
            replace HB := Sq.bs HB hb
            (try clear hb)
            (try clear hb2)
            (try clear hk)
            (try clear hi)
            (try clear ho0)
            refine hK.out _ _ trivial (fun hHeld => ?_)
            clear hK K
            refine norm_ (a' := ?_) ?_ ?_
            rotate_left
            ·show Act.put _ (some 57) _ = _
             simp only [Act.put, List.setIfInBounds_toArray, List.set_cons_zero, List.set_cons_succ, i64_w, i32_w]
             rfl
            exact norm_ (by simp only [putAll, Act.put, List.setIfInBounds_toArray, List.set_cons_zero, List.set_cons_succ]) (hCont (.slice Ao27 y711.length co27, v715, v718) _ ⟨(by (with_reducible repeat (first | apply Kd.R_alloc | apply Kd.R_drewN | apply Kd.R_drew)); exact Kd.R_mono HO713.out (fun _ hk => ⟨hk.2, ⟨hk.1.2, hk.1.1.2⟩⟩)), (by (with_reducible repeat (first | apply Kd.R_alloc | apply Kd.R_drewN | apply Kd.R_drew)); exact Kd.R_mono HO716.out (fun _ hk => ⟨hk.2, ⟨hk.1.2, hk.1.1.2⟩⟩)), (by (with_reducible repeat (first | apply Kd.R_alloc | apply Kd.R_drewN | apply Kd.R_drew)); exact Kd.R_mono HO719.out (fun _ hk => ⟨hk.1.2, ⟨hk.2, hk.1.1.2⟩⟩)), (by (with_reducible repeat (first | apply Kd.R_alloc | apply Kd.R_drewN | apply Kd.R_drew)); exact Kd.R_mono HO_7.out (fun _ hk => ⟨hk.1.2, ⟨hk.2, hk.1.1.2⟩⟩)), (Sq.bl HB)⟩)
          rintro ⟨v712, v715, v718⟩ w29 ⟨h0_, h1_, h2_, h3_, h4_⟩
          have HO713 : Aside0 (Kd.R (Kd.int .u32) 107 w29 w.heap.size (fun k_ => some k_ ≠ (v715 : Value).ownBlock ∧ some k_ ≠ (v718 : Value).ownBlock ∧ some k_ ≠ (.slice Ao21 x7_2.length co21 : Value).ownBlock) v712 y711) := ⟨h0_⟩
          have HO716 : Aside0 (Kd.R (Kd.int .u32) 107 w29 w.heap.size (fun k_ => some k_ ≠ (v712 : Value).ownBlock ∧ some k_ ≠ (v718 : Value).ownBlock ∧ some k_ ≠ (.slice Ao21 x7_2.length co21 : Value).ownBlock) v715 t714) := ⟨h1_⟩
          have HO719 : Aside0 (Kd.R (Kd.int .u32) 107 w29 w.heap.size (fun k_ => some k_ ≠ (v712 : Value).ownBlock ∧ some k_ ≠ (v715 : Value).ownBlock ∧ some k_ ≠ (.slice Ao21 x7_2.length co21 : Value).ownBlock) v718 y717) := ⟨h2_⟩
          replace HO_7 : Aside0 (Kd.R (Kd.int .u32) 107 w29 w.heap.size (fun k_ => some k_ ≠ (v712 : Value).ownBlock ∧ some k_ ≠ (v715 : Value).ownBlock ∧ some k_ ≠ (v718 : Value).ownBlock) (.slice Ao21 x7_2.length co21) x7_2) := ⟨h3_⟩
          replace HB : Aside0 (Below w.heap.size w w29) := ⟨h4_⟩
          clear h0_ h1_ h2_ h3_ h4_
          have hHeld := trivial
          obtain ⟨Ao30, co30, eo30⟩ := Kd.R_slice HO716.out
          (first | subst eo30 | (injection eo30 with f1_ f2_ f3_; have f4_ := f1_.symm; have f5_ := f3_.symm; clear f1_ f2_ f3_; subst f4_; subst f5_))
          obtain ⟨Ao31, co31, eo31⟩ := Kd.R_slice HO719.out
          (first | subst eo31 | (injection eo31 with f1_ f2_ f3_; have f4_ := f1_.symm; have f5_ := f3_.symm; clear f1_ f2_ f3_; subst f4_; subst f5_))
          refine norm_ (a' := ?_) ?_ ?_
          rotate_left
          ·simp only [putAll, Act.put, List.setIfInBounds_toArray, List.set_cons_zero, List.set_cons_succ]
           rfl
          refine one_ (i := 9) (N := some 64) #[true, true, true, true, true, true, true, true, true, true, false] rfl rfl (one_of HT_.out (by kernel_rfl)) (by decide) (fun K hK => ?_)
          refine goes_ Try.func47 (by kernel_rfl) rfl #[.slice Ao30 t714.length co30, .slice Ao31 y717.length co31] (by rfl) rfl rfl (by (try simp only [List.map_toArray, List.map_cons, List.map_nil]); first | done | rfl | (simp only [List.length_drop, List.length_take]; rfl)) ?_
          with_reducible refine (foliotref01_Add.calls k2 _ _ t714 _ _ y717 t720 _ ?side1 ?side2 ?side3 ?side4 A20.out).mono ?_
          (case side1 => exact Sq.ca (Kd.R_reads' HO716.out).2.2)
          (case side2 => exact (Kd.R_reads' HO716.out).2.1)
          (case side3 => exact Sq.ca (Kd.R_reads' HO719.out).2.2)
          (case side4 => exact (Kd.R_reads' HO719.out).2.1)
          rintro e w32 ⟨v721, rfl, ho0, hb⟩
          refine ⟨_, rfl, ?_⟩
          have HO722 := Aside0.mk (Kd.R_lower (Kd.R_new' (Kd.R_new' (Kd.R_new' (Kd.R_new' ho0 (Kd.R_lt (Sq.al HO_7))) (Kd.R_lt (Sq.al HO713))) (Kd.R_lt (Sq.al HO716))) (Kd.R_lt (Sq.al HO719))) (below_size (Sq.bl HB)))
          replace HO_7 := Aside0.mk (Kd.R_elder' (Sq.al HO_7) (Kd.R_base ho0) hb)
          replace HO713 := Aside0.mk (Kd.R_elder' (Sq.al HO713) (Kd.R_base ho0) hb)
          replace HO716 := Aside0.mk (Kd.R_elder' (Sq.al HO716) (Kd.R_base ho0) hb)
          replace HO719 := Aside0.mk (Kd.R_elder' (Sq.al HO719) (Kd.R_base ho0) hb)
          replace HB := Sq.bs HB hb
          (try clear hb)
          (try clear hb2)
          (try clear hk)
          (try clear hi)
          (try clear ho0)
          refine hK.out _ _ trivial (fun hHeld => ?_)
          clear hK K
          refine norm_ (a' := ?_) ?_ ?_
          rotate_left
          ·show Act.put _ (some 64) _ = _
           simp only [Act.put, List.setIfInBounds_toArray, List.set_cons_zero, List.set_cons_succ, i64_w, i32_w]
           rfl
          refine Sq.pu (v := ?_) (a' := ?_) 10 (some 7) #[true, true, true, true, true, true, true, true, true, true, true] HT_ ?_ ?_ ?_
          rotate_left
          ·intro w'
           go_simp
           with_reducible rfl
          rotate_left
          ·simp only [Act.put, List.setIfInBounds_toArray, List.set_cons_zero, List.set_cons_succ, i64_w, i32_w]
           rfl
          refine done_ (done_of HT_.out (by kernel_rfl)) ?_
          try go_wp2
          go_roundg k2
          case measure => have := HK1.out; have := HK2.out; omega
          case rel => exact ⟨(t720), (wrap64 (x8_2 + 1)), (by first | rfl | (simp; done) | (simp [*]; done)), H', ⟨by have := HK1.out; have := HK2.out; omega⟩, ⟨by (with_reducible repeat (first | apply Kd.R_alloc | apply Kd.R_drewN | apply Kd.R_drew)); exact Kd.R_mono HO722.out (fun _ hk => trivial)⟩, ⟨Sq.bl HB⟩⟩
         ·rw [if_neg c16] at H
          have c16b0 : decide (x8_2 < (a0.size : Int)) = false := decide_eq_false c16
          clear c16
          simp only [Option.some.injEq, Prod.mk.injEq] at H
          obtain ⟨rfl, rfl⟩ := H
          go_wp2
          go_ret2
          exact ⟨_, by first | rfl | (simp [errW_none, errW_some] <;> rfl) | (simp [*, errW_none, errW_some] <;> rfl), by (with_reducible repeat (first | apply Kd.R_alloc | apply Kd.R_drewN | apply Kd.R_drew)); exact HO_7.out, Sq.bl HB⟩
end Go.Proofs.Ytaclkccgjpjdjaa.N
