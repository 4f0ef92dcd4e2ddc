-- printed by a program of this session, by way of the kit's printer
import Derived.Test.YtnnjanhibomijaaAx0
import Derived.Test.YtnnjanhibomijaaAx10
namespace Go.Proofs.Ytnnjanhibomijaa.A
open Go.RowKit Go.Proofs.YtnnjanhibomijaaW.PrintWords Go.Proofs.YtnnjanhibomijaaW.PrintLast Go.Proofs.YtnnjanhibomijaaW.PrintMore
attribute [local go_sem] max2_int min2_int max_two min_two max_three min_three max_four min_four   -- for this text's walks alone
set_option linter.unusedVariables false
set_option linter.unusedSimpArgs false

/-! ### foliotlaw04_texts: function 22: a text of this session -/
def foliotlaw04_texts.l0 : Nat → List (S31) → ByteArray → Int → Option (ByteArray)
  | 0, _, _, _ => none
  | k + 1, x0, x3, x4 => if x4 < (x0.length : Int) then (if 0 ≤ x4 then (if x3.size + ((rd_T31 x0 x4).f1).size ≤ 9223372036854775807 then (if (x3 ++ ((rd_T31 x0 x4).f1)).size + 1 ≤ 9223372036854775807 then (foliotlaw04_texts.l0 k x0 ((x3 ++ ((rd_T31 x0 x4).f1)) ++ (⟨#[124]⟩ : ByteArray)) (wrap64 (x4 + 1))) else (none)) else (none)) else (none)) else (some x3)
def foliotlaw04_texts.f (k : Nat) (l0 : List (S31)) : Option (ByteArray) := foliotlaw04_texts.l0 k l0 (⟨#[]⟩ : ByteArray) 0
theorem foliotlaw04_texts.mono_l : ∀ k, (∀ y0 y1 y2, LeO (foliotlaw04_texts.l0 k y0 y1 y2) (foliotlaw04_texts.l0 (k + 1) y0 y1 y2))
  | 0 => fun _ _ _ r h => by simp [foliotlaw04_texts.l0] at h
  | k + 1 => by
    have ih0 := foliotlaw04_texts.mono_l k
    · intro y0 y1 y2
      unfold foliotlaw04_texts.l0
      repeat' first
      | (with_reducible exact ih0 _ _ _)
      | (with_reducible exact LeO.refl _)
      | (with_reducible exact LeO.none _)
      | (with_reducible refine LeO.ite ?_ ?_)
      | (with_reducible refine LeO.bind ?_ (fun _ => ?_))
      | exact ih0 _ _ _
      | exact LeO.none _
      | refine LeO.ite ?_ ?_
      | refine LeO.bind ?_ (fun _ => ?_)
theorem foliotlaw04_texts.mono : ∀ a0 k, LeO (foliotlaw04_texts.f k a0) (foliotlaw04_texts.f (k + 1) a0) := by
  intro a0 k
  have ih0 := foliotlaw04_texts.mono_l k
  unfold foliotlaw04_texts.f
  repeat' first
      | (with_reducible exact ih0 _ _ _)
      | (with_reducible exact LeO.refl _)
      | (with_reducible exact LeO.none _)
      | (with_reducible refine LeO.ite ?_ ?_)
      | (with_reducible refine LeO.bind ?_ (fun _ => ?_))
      | exact ih0 _ _ _
      | exact LeO.none _
      | refine LeO.ite ?_ ?_
      | refine LeO.bind ?_ (fun _ => ?_)
set_option maxHeartbeats 8000000 in
set_option maxRecDepth 100000 in
theorem foliotlaw04_texts.calls (k : Nat) (A0 : Option Addr) (c0 : Nat) (l0 : List (S31)) (r : ByteArray) (w : World) (hr0 : Kd.C k31 w A0 l0.length l0) (hc0 : l0.length ≤ c0) (h : foliotlaw04_texts.f k l0 = some r) :
    Calls Try.prog 22 #[.slice A0 l0.length c0] w fun e w' => e = .returned (.string r) ∧ Drawn0 w w' := by
  have HR0 := Aside0.mk hr0
  have HC0 := Aside0.mk hc0
  clear hr0 hc0
  have H : (foliotlaw04_texts.l0 k l0 (⟨#[]⟩ : ByteArray) 0) = some r := h
  clear h
  have H' := Aside0.mk H
  clear H
  go_enter Try.func22, Try.ntmps22
  go_wp2
  go_loopg [3, 4] k (fun kq v3 v4 w' => ∃ (x3_1 : ByteArray) (x4_1 : Int), v3 = .string x3_1 ∧ v4 = .int .i64 x4_1 ∧ Aside0 (foliotlaw04_texts.l0 kq l0 x3_1 x4_1 = some r) ∧ Aside0 (kq ≤ k) ∧ Drawn0 w w')
  case atStart => exact ⟨((⟨#[]⟩ : ByteArray)), (0), (by first | rfl | (simp; done) | (simp [*]; done)), (by first | rfl | (simp; done) | (simp [*]; done)), H', ⟨Nat.le_refl _⟩, by repeat (first | exact Drawn0.refl _ | apply Drawn0.step)⟩
  case round =>
    clear H'
    obtain ⟨x3_1, x4_1, rfl, rfl, HA, HK1, ⟨m1, rfl⟩⟩ := hrel
    cases gk with
    | zero => exact absurd HA.out (by simp [foliotlaw04_texts.l0])
    | succ k1 =>
      have H := HA.out
      clear HA
      simp only [foliotlaw04_texts.l0] at H
      by_cases c2 : x4_1 < (l0.length : Int)
      · rw [if_pos c2] at H
        have c2b0 : decide (x4_1 < (l0.length : Int)) = true := decide_eq_true c2
        clear c2
        by_cases c3 : 0 ≤ x4_1
        · rw [if_pos c3] at H
          have c3b0 : decide (0 ≤ x4_1) = true := decide_eq_true c3
          clear c3
          by_cases c4 : x3_1.size + ((rd_T31 l0 x4_1).f1).size ≤ 9223372036854775807
          · rw [if_pos c4] at H
            have c4b0 := eq_true c4
            have c4b1 : decide (x3_1.size + ((rd_T31 l0 x4_1).f1).size ≤ 9223372036854775807) = true := decide_eq_true c4
            try have c4b2 : (9223372036854775807 < x3_1.size + ((rd_T31 l0 x4_1).f1).size) = False := eq_false (Nat.not_lt.2 c4)
            by_cases c5 : (x3_1 ++ ((rd_T31 l0 x4_1).f1)).size + 1 ≤ 9223372036854775807
            · rw [if_pos c5] at H
              have c5b0 := eq_true c5
              have c5b1 : decide ((x3_1 ++ ((rd_T31 l0 x4_1).f1)).size + 1 ≤ 9223372036854775807) = true := decide_eq_true c5
              try have c5b2 : (9223372036854775807 < (x3_1 ++ ((rd_T31 l0 x4_1).f1)).size + 1) = False := eq_false (Nat.not_lt.2 c5)
              have cn : x3_1.size + ((rd_T31 l0 x4_1).f1).size + 1 ≤ 9223372036854775807 := by rw [← ByteArray.size_append]; exact c5
              have cn0 := eq_true cn
              have cn1 : decide (x3_1.size + ((rd_T31 l0 x4_1).f1).size + 1 ≤ 9223372036854775807) = true := decide_eq_true cn
              have cn2 : (9223372036854775807 < x3_1.size + ((rd_T31 l0 x4_1).f1).size + 1) = False := eq_false (Nat.not_lt.2 cn)
              have H' := Aside0.mk H
              clear H
              have p178 : 0 ≤ (x4_1 : Int) := of_decide_eq_true (by first | (with_reducible assumption) | assumption)
              have q178 : x4_1 < (l0.length : Int) := of_decide_eq_true (by first | (with_reducible assumption) | assumption)
              obtain ⟨ad178, e178, hx178_0, hx178_1, hx178_2⟩ := at_T31 HR0.out x4_1 p178 q178
              cases e178
              replace p178 := eq_true p178
              replace q178 := eq_true q178
              go_wp2
              go_roundg k1
              case measure => have := HK1.out; omega
              case rel => exact ⟨((x3_1 ++ ((rd_T31 l0 x4_1).f1)) ++ (⟨#[124]⟩ : ByteArray)), (wrap64 (x4_1 + 1)), (by first | rfl | (simp; done) | (simp [*]; done)), (by first | rfl | (simp; done) | (simp [*]; done)), H', ⟨by have := HK1.out; omega⟩, by repeat (first | exact Drawn0.refl _ | apply Drawn0.step)⟩
            · rw [if_neg c5] at H
              exact absurd H (by simp)
          · rw [if_neg c4] at H
            exact absurd H (by simp)
        · rw [if_neg c3] at H
          exact absurd H (by simp)
      · rw [if_neg c2] at H
        have c2b0 : decide (x4_1 < (l0.length : Int)) = false := decide_eq_false c2
        clear c2
        obtain rfl := Option.some.inj H
        go_wp2
        go_ret
        exact ⟨by first | rfl | (simp; done) | (simp [*]; done), by repeat (first | exact Drawn0.refl _ | apply Drawn0.step)⟩
/-! ### foliotlaw04_awake: function 12: a text of this session -/
theorem bytes_marked (W : World) (xs : List Int) (t : TypeId) (fr : Nat × Nat) (hn : xs.length ≤ 9223372036854775807) : Kd.C (Kd.int .u8) (W.alloc (.cells (xs.map (Value.int .u8)).toArray t fr)) (some ⟨W.heap.size, 0, none⟩) xs.length xs := by
  refine Kd.C_of_reads (d := (0 : Int)) ⟨rfl, hn, fun _ => ⟨_, rfl, fun j hj => ?_⟩⟩
  rw [add_plain, show (W.alloc (.cells (xs.map (Value.int .u8)).toArray t fr)).cell? ⟨W.heap.size, j, none⟩ = (xs.map (Value.int .u8)).toArray[j]? from cell_of_row _ _ j _ t fr (heap_alloc_new W _)]
  simp [List.getElem?_eq_getElem hj, List.getD_eq_getElem?_getD]
def foliotlaw04_awake.f (k : Nat) : Option (Bool) := (lex_Tokens.f k [120, 61, 45, 49, 46, 53, 59, 45, 45, 101, 110, 100, 32]).bind fun a => (lex_Tokens.f k [49, 46, 120]).bind fun b => (lex_Tokens.f k [45, 62, 61]).bind fun c => (foliotlaw04_texts.f k a.1).bind fun s => (foliotlaw04_texts.f k c.1).bind fun t =>
  if a.2.1 = 0 ∧ s.toList = [120, 124, 61, 124, 45, 124, 49, 46, 53, 124, 59, 124, 124] ∧ b.2.1 = 40 ∧ b.2.2 = 1 ∧ c.2.1 = 0 ∧ t.toList = [45, 62, 124, 61, 124, 124] then some true else none
theorem foliotlaw04_awake.mono : ∀ k, LeO (foliotlaw04_awake.f k) (foliotlaw04_awake.f (k + 1)) := by
  intro k
  unfold foliotlaw04_awake.f
  exact LeO.bind (lex_Tokens.mono _ _) (fun _ => LeO.bind (lex_Tokens.mono _ _) (fun _ => LeO.bind (lex_Tokens.mono _ _) (fun _ => LeO.bind (foliotlaw04_texts.mono _ _) (fun _ => LeO.bind (foliotlaw04_texts.mono _ _) (fun _ => LeO.refl _)))))
set_option maxHeartbeats 8000000 in
set_option maxRecDepth 100000 in
theorem foliotlaw04_awake.calls (k : Nat) (r : Bool) (w : World) (h : foliotlaw04_awake.f k = some r) :
    Calls Try.prog 12 #[] w fun e w' => e = .returned (.bool r) ∧ Below w.heap.size w w' := by
  unfold foliotlaw04_awake.f at h
  obtain ⟨⟨l1, e1, n1⟩, h1, g1⟩ := Option.bind_eq_some_iff.mp h
  obtain ⟨⟨l2, e2, n2⟩, h2, g2⟩ := Option.bind_eq_some_iff.mp g1
  obtain ⟨⟨l3, e3, n3⟩, h3, g3⟩ := Option.bind_eq_some_iff.mp g2
  obtain ⟨s1, h4, g4⟩ := Option.bind_eq_some_iff.mp g3
  obtain ⟨s2, h5, g5⟩ := Option.bind_eq_some_iff.mp g4
  dsimp only at h4 h5 g5
  by_cases hq : e1 = 0 ∧ s1.toList = [120, 124, 61, 124, 45, 124, 49, 46, 53, 124, 59, 124, 124] ∧ e2 = 40 ∧ n2 = 1 ∧ e3 = 0 ∧ s2.toList = [45, 62, 124, 61, 124, 124]
  rotate_left
  · rw [if_neg hq] at g5; cases g5
  rw [if_pos hq] at g5
  obtain ⟨rfl, q1, rfl, rfl, rfl, q2⟩ := hq
  obtain rfl := Option.some.inj g5
  clear g1 g2 g3 g4 g5
  have A1 := Aside0.mk h1
  have A2 := Aside0.mk h2
  have A3 := Aside0.mk h3
  have A4 := Aside0.mk h4
  have A5 := Aside0.mk h5
  have Q1 : (s1.toList == [120, 124, 61, 124, 45, 124, 49, 46, 53, 124, 59, 124, 124]) = true := beq_iff_eq.mpr q1
  have Q2 : (s2.toList == [45, 62, 124, 61, 124, 124]) = true := beq_iff_eq.mpr q2
  have HB := Aside0.mk (Below.refl w.heap.size w)
  clear h h1 h2 h3 h4 h5 q1 q2
  have kc := fun (w : World) (C : Array Value) (n c : Nat) => Lib.run_convert_bytes_const (P := Try.prog) w 22 5 C n c Try.underlying22 Try.underlying5
  go_enter Try.func12, Try.ntmps12
  go_wp2_with fail
  refine (lex_Tokens.calls k _ _ [120, 61, 45, 49, 46, 53, 59, 45, 45, 101, 110, 100, 32] l1 0 n1 _ (bytes_marked w [120, 61, 45, 49, 46, 53, 59, 45, 45, 101, 110, 100, 32] 5 (13, 14) (by decide)) (by decide) A1.out).mono ?_
  rintro e w1 ⟨v1, rfl, ho1, hb⟩
  have n0_ := Aside0.mk (below_step (below_alloc HB.out _) hb)
  have HO1 := Aside0.mk ho1
  clear hb ho1 HB
  go_wp2_with fail
  refine (lex_Tokens.calls k _ _ [49, 46, 120] l2 40 1 _ (bytes_marked w1 [49, 46, 120] 5 (3, 4) (by decide)) (by decide) A2.out).mono ?_
  rintro e w2 ⟨v2, rfl, ho2, hb⟩
  have n1_ := Aside0.mk (below_step (below_alloc n0_.out _) hb)
  have HO2 := Aside0.mk (Kd.R_below (Kd.R_alloc HO1.out _) hb)
  clear hb ho2 n0_ HO1
  go_wp2_with fail
  refine (lex_Tokens.calls k _ _ [45, 62, 61] l3 0 n3 _ (bytes_marked w2 [45, 62, 61] 5 (3, 4) (by decide)) (by decide) A3.out).mono ?_
  rintro e w3 ⟨v3, rfl, ho3, hb⟩
  have HB := Aside0.mk (below_step (below_alloc n1_.out _) hb)
  have HO1 := Aside0.mk (Kd.R_below (Kd.R_alloc HO2.out _) hb)
  have HO3 := Aside0.mk ho3
  clear hb ho3 n1_ HO2 kc
  obtain ⟨a1, c1, rfl⟩ := Kd.R_slice HO1.out
  obtain ⟨a3, c3, rfl⟩ := Kd.R_slice HO3.out
  go_wp2_with fail
  refine (foliotlaw04_texts.calls k _ _ l1 s1 _ (Kd.R_reads' HO1.out).2.2 (Kd.R_reads' HO1.out).2.1 A4.out).mono ?_
  rintro e w' ⟨rfl, ⟨nd, rfl⟩⟩
  go_wp2_with fail
  refine (foliotlaw04_texts.calls k _ _ l3 s2 _ (Kd.C_drewN (Kd.R_reads' HO3.out).2.2 _) (Kd.R_reads' HO3.out).2.1 A5.out).mono ?_
  rintro e w' ⟨rfl, ⟨nd2, rfl⟩⟩
  go_wp2_with fail
  go_ret
  exact ⟨by simp [Q2], by repeat (first | (with_reducible first | exact HB.out | apply below_alloc | apply pw_below_drewN | apply below_drew1) | exact HB.out)⟩
end Go.Proofs.Ytnnjanhibomijaa.A
