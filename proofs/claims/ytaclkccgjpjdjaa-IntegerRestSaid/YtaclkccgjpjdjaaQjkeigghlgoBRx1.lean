import Derived.Test.YtaclkccgjpjdjaaQlfccecgnoiBRx0
import Derived.Test.YtaclkccgjpjdjaaQipcojhjkmgM
namespace Go.Proofs.Ytaclkccgjpjdjaa.BR
open Go.RowKit Go.Proofs.YtaclkccgjpjdjaaW.PrintWords Go.Proofs.YtaclkccgjpjdjaaW.PrintLast Go.Proofs.YtaclkccgjpjdjaaW.PrintMore
attribute [local go_sem] max2_int min2_int max_two min_two max_three min_three max_four min_four   -- for this text's walks alone
set_option linter.unusedVariables false
set_option linter.unusedSimpArgs false
def foliotlaw02_few.f (a0_0 : Bool) (l0_1 : List Int) (a1_0 : Bool) (l1_1 : List Int) : Option (Bool) := if (l0_1.length : Int) ≤ 10 then (some (decide ((l1_1.length : Int) ≤ 10))) else (some false)
set_option maxHeartbeats 8000000 in
set_option maxRecDepth 100000 in
theorem foliotlaw02_few.calls (a0_0 : Bool) (A0_1 : Option Addr) (c0_1 : Nat) (l0_1 : List Int) (a1_0 : Bool) (A1_1 : Option Addr) (c1_1 : Nat) (l1_1 : List Int) (r : Bool) (w : World) (hr0_1 : Kd.C (Kd.int .u32) w A0_1 l0_1.length l0_1) (hc0_1 : l0_1.length ≤ c0_1) (hr1_1 : Kd.C (Kd.int .u32) w A1_1 l1_1.length l1_1) (hc1_1 : l1_1.length ≤ c1_1) (h : foliotlaw02_few.f a0_0 l0_1 a1_0 l1_1 = some r) :
  Calls Try.prog 53 #[.agg #[.bool a0_0, .slice A0_1 l0_1.length c0_1], .agg #[.bool a1_0, .slice A1_1 l1_1.length c1_1]] w fun e w' => e = .returned (.bool r) ∧ Below w.heap.size w w' := by
 have hu39 := Try.underlying39
 have HR0_1 := Aside0.mk hr0_1
 have HC0_1 := Aside0.mk hc0_1
 clear hr0_1 hc0_1
 have HR1_1 := Aside0.mk hr1_1
 have HC1_1 := Aside0.mk hc1_1
 clear hr1_1 hc1_1
 have HB := Aside0.mk (Below.refl w.heap.size w)
 have H : (if (l0_1.length : Int) ≤ 10 then (some (decide ((l1_1.length : Int) ≤ 10))) else (some false)) = some r := h
 clear h
 by_cases c3 : (l0_1.length : Int) ≤ 10
 ·rw [if_pos c3] at H
  have c3b0 : decide ((l0_1.length : Int) ≤ 10) = true := decide_eq_true c3
  have c3b1 : decide (l0_1.length ≤ 10) = true := decide_eq_true (by omega)
  clear c3
  obtain rfl := Option.some.inj H
  go_enter Try.func53, Try.ntmps53
  go_wp2_with (first | ((with_reducible refine gate_dst (N := 2) rfl ?_); (try (refine gate_guard (by rfl) ?_; dsimp only)); refine box_event ?hg (N := 2) ?hd (cs := #[.bool a0_0, .slice A0_1 l0_1.length c0_1]) (t := 39) ?hr ?_; (case hd => rfl); (case hg => rfl); (case hr => first | (go_simp; done) | (go_simp; rfl)); intro gb101 hg w4 hbox hb; have BK101 := Aside0.mk (hbox); have GW101 := Sq.gw HB hg; have GE101 := Sq.gw HB hg; replace HB := Sq.bs HB hb; clear hb hbox hg) | ((with_reducible refine gate_dst (N := 3) rfl ?_); (try (refine gate_guard (by rfl) ?_; dsimp only)); refine box_event ?hg (N := 3) ?hd (cs := #[.bool a1_0, .slice A1_1 l1_1.length c1_1]) (t := 39) ?hr ?_; (case hd => rfl); (case hg => rfl); (case hr => first | (go_simp; done) | (go_simp; rfl)); intro gb102 hg w5 hbox hb; have BK102 := Aside0.mk (hbox); have GW102 := Sq.gw HB hg; have GE102 := Sq.gw HB hg; have NB101_102 := Sq.nl BK101 hg; have NB102_101 := Sq.ng BK101 hg; replace BK101 := Sq.bb BK101 hb; replace HB := Sq.bs HB hb; clear hb hbox hg; have hnb6 := NB101_102.out; have hnc6 := NB102_101.out; have hcz7_0 := Sq.bc BK101 0 (.bool a0_0); have hcz7_1 := Sq.bc BK101 1 (.slice A0_1 l0_1.length c0_1); have hfz7_0 := blk_frozen BK101.out 0; have hfz7_1 := blk_frozen BK101.out 1; have hcz8_0 := Sq.bc BK102 0 (.bool a1_0); have hcz8_1 := Sq.bc BK102 1 (.slice A1_1 l1_1.length c1_1); have hfz8_0 := blk_frozen BK102.out 0; have hfz8_1 := blk_frozen BK102.out 1))
  go_ret
  exact ⟨by first | rfl | (simp [errW_none, errW_some] <;> rfl) | (simp [*, errW_none, errW_some] <;> rfl), Sq.bl HB⟩
 ·rw [if_neg c3] at H
  have c3b0 : decide ((l0_1.length : Int) ≤ 10) = false := decide_eq_false c3
  have c3b1 : decide (l0_1.length ≤ 10) = false := decide_eq_false (by omega)
  clear c3
  obtain rfl := Option.some.inj H
  go_enter Try.func53, Try.ntmps53
  go_wp2_with (first | ((with_reducible refine gate_dst (N := 2) rfl ?_); (try (refine gate_guard (by rfl) ?_; dsimp only)); refine box_event ?hg (N := 2) ?hd (cs := #[.bool a0_0, .slice A0_1 l0_1.length c0_1]) (t := 39) ?hr ?_; (case hd => rfl); (case hg => rfl); (case hr => first | (go_simp; done) | (go_simp; rfl)); intro gb101 hg w9 hbox hb; have BK101 := Aside0.mk (hbox); have GW101 := Sq.gw HB hg; have GE101 := Sq.gw HB hg; replace HB := Sq.bs HB hb; clear hb hbox hg) | ((with_reducible refine gate_dst (N := 3) rfl ?_); (try (refine gate_guard (by rfl) ?_; dsimp only)); refine box_event ?hg (N := 3) ?hd (cs := #[.bool a1_0, .slice A1_1 l1_1.length c1_1]) (t := 39) ?hr ?_; (case hd => rfl); (case hg => rfl); (case hr => first | (go_simp; done) | (go_simp; rfl)); intro gb102 hg w10 hbox hb; have BK102 := Aside0.mk (hbox); have GW102 := Sq.gw HB hg; have GE102 := Sq.gw HB hg; have NB101_102 := Sq.nl BK101 hg; have NB102_101 := Sq.ng BK101 hg; replace BK101 := Sq.bb BK101 hb; replace HB := Sq.bs HB hb; clear hb hbox hg; have hnb11 := NB101_102.out; have hnc11 := NB102_101.out; have hcz12_0 := Sq.bc BK101 0 (.bool a0_0); have hcz12_1 := Sq.bc BK101 1 (.slice A0_1 l0_1.length c0_1); have hfz12_0 := blk_frozen BK101.out 0; have hfz12_1 := blk_frozen BK101.out 1))
  go_ret
  exact ⟨by first | rfl | (simp [errW_none, errW_some] <;> rfl) | (simp [*, errW_none, errW_some] <;> rfl), Sq.bl HB⟩
def integer_Div.f (a0_0 : Bool) (l0_1 : List Int) (a1_0 : Bool) (l1_1 : List Int) : Option (Bool × List Int × Bool × List Int × Int) := if Zi.few 50000 l0_1 ∧ Zi.few 50000 l1_1 then some (Zi.divZ (Zi.zval a0_0 l0_1) (Zi.zval a1_0 l1_1)) else none
theorem integer_Div.calls (a0_0 : Bool) (A0_1 : Option Addr) (c0_1 : Nat) (l0_1 : List Int) (a1_0 : Bool) (A1_1 : Option Addr) (c1_1 : Nat) (l1_1 : List Int) (r1 : Bool) (r2 : List Int) (r3 : Bool) (r4 : List Int) (r5 : Int) (w : World) (hr0_1 : Kd.C (Kd.int .u32) w A0_1 l0_1.length l0_1) (hc0_1 : l0_1.length ≤ c0_1) (hr1_1 : Kd.C (Kd.int .u32) w A1_1 l1_1.length l1_1) (hc1_1 : l1_1.length ≤ c1_1) (h : integer_Div.f a0_0 l0_1 a1_0 l1_1 = some (r1, r2, r3, r4, r5)) :
  Calls Try.prog 54 #[.agg #[.bool a0_0, .slice A0_1 l0_1.length c0_1], .agg #[.bool a1_0, .slice A1_1 l1_1.length c1_1]] w fun e w' => ∃ v1_ v3_ : Value, e = .returned (.tuple #[.agg #[.bool r1, v1_], .agg #[.bool r3, v3_], .int .i64 r5]) ∧ Kd.R (Kd.int .u32) 107 w' w.heap.size (fun k_ => some k_ ≠ (v3_ : Value).ownBlock) v1_ r2 ∧ Kd.R (Kd.int .u32) 107 w' w.heap.size (fun k_ => some k_ ≠ (v1_ : Value).ownBlock) v3_ r4 ∧ Below w.heap.size w w' := by
 unfold integer_Div.f at h
 split at h
 ·rename_i hf
  obtain ⟨K, hK⟩ := (⟨1, Zi.div_at 0 (hf.1.fits (by omega)) (hf.2.fits (by omega)) (by have := hf.1.2; have := hf.2.2; omega)⟩ : ∃ K, I.integer_Div.f K a0_0 l0_1 a1_0 l1_1 = some (Zi.divZ (Zi.zval a0_0 l0_1) (Zi.zval a1_0 l1_1)))
  exact I.integer_Div.calls K a0_0 A0_1 c0_1 l0_1 a1_0 A1_1 c1_1 l1_1 r1 r2 r3 r4 r5 w hr0_1 hc0_1 hr1_1 hc1_1 (hK.trans h)
 ·cases h
def foliotref01_Same.l0 : Nat → List Int → List Int → Int → Option (Bool)
 | 0, _, _, _ => none
 | k + 1, x0, x1, x5 => if x5 < (x0.length : Int) then (if 0 ≤ x5 then (if x5 < (x1.length : Int) then (if (rd x0 x5) = (rd x1 x5) then (foliotref01_Same.l0 k x0 x1 (wrap64 (x5 + 1))) else (some false)) else (none)) else (none)) else (some true)
def foliotref01_Same.f (k : Nat) (l0 : List Int) (l1 : List Int) : Option (Bool) := if (l0.length : Int) = (l1.length : Int) then (foliotref01_Same.l0 k l0 l1 0) else (some false)
set_option maxHeartbeats 8000000 in
set_option maxRecDepth 100000 in
theorem foliotref01_Same.calls (k : Nat) (A0 : Option Addr) (c0 : Nat) (l0 : List Int) (A1 : Option Addr) (c1 : Nat) (l1 : List Int) (r : Bool) (w : World) (hr0 : Kd.C (Kd.int .u32) w A0 l0.length l0) (hc0 : l0.length ≤ c0) (hr1 : Kd.C (Kd.int .u32) w A1 l1.length l1) (hc1 : l1.length ≤ c1) (h : foliotref01_Same.f k l0 l1 = some r) :
  Calls Try.prog 33 #[.slice A0 l0.length c0, .slice A1 l1.length c1] w fun e w' => e = .returned (.bool r) ∧ Drawn0 w w' := by
 have HR0 := Aside0.mk hr0
 have HC0 := Aside0.mk hc0
 clear hr0 hc0
 have HR1 := Aside0.mk hr1
 have HC1 := Aside0.mk hc1
 clear hr1 hc1
 have H : (if (l0.length : Int) = (l1.length : Int) then (foliotref01_Same.l0 k l0 l1 0) else (some false)) = some r := h
 clear h
 by_cases c3 : (l0.length : Int) = (l1.length : Int)
 ·rw [if_pos c3] at H
  have c3b0 : ((l0.length : Int) == (l1.length : Int)) = true := beq_iff_eq.mpr c3
  have c3b1 : ((l0.length : Int) != (l1.length : Int)) = false := bne_eq_false_iff_eq.mpr c3
  have c3b2 : (l0.length == l1.length) = true := by first | simpa using c3 | (simp at c3 ⊢; omega)
  clear c3
  have H' := Aside0.mk H
  clear H
  go_enter Try.func33, Try.ntmps33
  go_wp2
  repeat (go_quiet (fail); try go_wp2)
  go_loopg [5] k (fun kq v5 w' => ∃ (x5_1 : Int), v5 = .int .i64 x5_1 ∧ Aside0 (foliotref01_Same.l0 kq l0 l1 x5_1 = some r) ∧ Aside0 (kq ≤ k) ∧ Drawn0 w w')
  case atStart => exact ⟨(0), (by first | rfl | (simp; done) | (simp [*]; done)), H', ⟨Nat.le_refl _⟩, by repeat (first | exact Drawn0.refl _ | apply Drawn0.step)⟩
  case round =>
   clear H'
   try clear c1
   try clear p2
   try clear c3
   try clear c3b0
   try clear c3b1
   try clear c3b2
   obtain ⟨x5_1, rfl, HA, HK1, ⟨m1, rfl⟩⟩ := hrel
   cases gk with
   | zero => exact absurd HA.out (by simp [foliotref01_Same.l0])
   | succ k1 =>
    have H := HA.out
    clear HA
    simp only [foliotref01_Same.l0] at H
    by_cases c4 : x5_1 < (l0.length : Int)
    ·rw [if_pos c4] at H
     have c4b0 : decide (x5_1 < (l0.length : Int)) = true := decide_eq_true c4
     clear c4
     replace H := Sq.ifs H
     obtain ⟨c5, H⟩ := H
     have c5b0 : decide (0 ≤ x5_1) = true := decide_eq_true c5
     clear c5
     replace H := Sq.ifs H
     obtain ⟨c6, H⟩ := H
     have c6b0 : decide (x5_1 < (l1.length : Int)) = true := decide_eq_true c6
     clear c6
     by_cases c7 : (rd l0 x5_1) = (rd l1 x5_1)
     ·rw [if_pos c7] at H
      have c7b0 : ((rd l0 x5_1) == (rd l1 x5_1)) = true := beq_iff_eq.mpr c7
      have c7b1 : ((rd l0 x5_1) != (rd l1 x5_1)) = false := bne_eq_false_iff_eq.mpr c7
      clear c7
      have H' := Aside0.mk H
      clear H
      have p103 : 0 ≤ (x5_1 : Int) := of_decide_eq_true (by first | (with_reducible assumption) | assumption)
      have q103 : x5_1 < (l0.length : Int) := of_decide_eq_true (by first | (with_reducible assumption) | assumption)
      obtain ⟨ad103, e103, hx103_0⟩ := Kd.at_int HR0.out x5_1 p103 q103
      cases e103
      replace p103 := eq_true p103
      replace q103 := eq_true q103
      have p104 : 0 ≤ (x5_1 : Int) := of_decide_eq_true (by first | (with_reducible assumption) | assumption)
      have q104 : x5_1 < (l1.length : Int) := of_decide_eq_true (by first | (with_reducible assumption) | assumption)
      obtain ⟨ad104, e104, hx104_0⟩ := Kd.at_int HR1.out x5_1 p104 q104
      cases e104
      replace p104 := eq_true p104
      replace q104 := eq_true q104
      go_wp2
      repeat (go_quiet (fail); try go_wp2)
      go_roundg k1
      case measure => have := HK1.out; omega
      case rel => exact ⟨(wrap64 (x5_1 + 1)), (by first | rfl | (simp; done) | (simp [*]; done)), H', ⟨by have := HK1.out; omega⟩, by repeat (first | exact Drawn0.refl _ | apply Drawn0.step)⟩
     ·rw [if_neg c7] at H
      have c7b0 : ((rd l0 x5_1) == (rd l1 x5_1)) = false := beq_eq_false_iff_ne.mpr c7
      have c7b1 : ((rd l0 x5_1) != (rd l1 x5_1)) = true := bne_iff_ne.mpr c7
      obtain rfl := Option.some.inj H
      have p103 : 0 ≤ (x5_1 : Int) := of_decide_eq_true (by first | (with_reducible assumption) | assumption)
      have q103 : x5_1 < (l0.length : Int) := of_decide_eq_true (by first | (with_reducible assumption) | assumption)
      obtain ⟨ad103, e103, hx103_0⟩ := Kd.at_int HR0.out x5_1 p103 q103
      cases e103
      replace p103 := eq_true p103
      replace q103 := eq_true q103
      have p104 : 0 ≤ (x5_1 : Int) := of_decide_eq_true (by first | (with_reducible assumption) | assumption)
      have q104 : x5_1 < (l1.length : Int) := of_decide_eq_true (by first | (with_reducible assumption) | assumption)
      obtain ⟨ad104, e104, hx104_0⟩ := Kd.at_int HR1.out x5_1 p104 q104
      cases e104
      replace p104 := eq_true p104
      replace q104 := eq_true q104
      go_wp2
      repeat (go_quiet (fail); try go_wp2)
      go_ret
      exact ⟨by first | rfl | (simp; done) | (simp [*]; done), by repeat (first | exact Drawn0.refl _ | apply Drawn0.step)⟩
    ·rw [if_neg c4] at H
     have c4b0 : decide (x5_1 < (l0.length : Int)) = false := decide_eq_false c4
     clear c4
     obtain rfl := Option.some.inj H
     go_wp2
     repeat (go_quiet (fail); try go_wp2)
     go_ret
     exact ⟨by first | rfl | (simp; done) | (simp [*]; done), by repeat (first | exact Drawn0.refl _ | apply Drawn0.step)⟩
 ·rw [if_neg c3] at H
  have c3b0 : ((l0.length : Int) == (l1.length : Int)) = false := beq_eq_false_iff_ne.mpr c3
  have c3b1 : ((l0.length : Int) != (l1.length : Int)) = true := bne_iff_ne.mpr c3
  have c3b2 : (l0.length == l1.length) = false := by first | simpa using c3 | (simp at c3 ⊢; omega)
  obtain rfl := Option.some.inj H
  go_enter Try.func33, Try.ntmps33
  go_wp2
  repeat (go_quiet (fail); try go_wp2)
  go_ret
  exact ⟨by first | rfl | (simp; done) | (simp [*]; done), by repeat (first | exact Drawn0.refl _ | apply Drawn0.step)⟩
def foliotref02_Same.f (k : Nat) (a0_0 : Bool) (l0_1 : List Int) (a1_0 : Bool) (l1_1 : List Int) : Option (Bool) := if (a0_0 == a1_0) = true then ((foliotref01_Same.f k l0_1 l1_1).bind fun t107 => (some t107)) else (some false)
set_option maxHeartbeats 8000000 in
set_option maxRecDepth 100000 in
theorem foliotref02_Same.calls (k : Nat) (a0_0 : Bool) (A0_1 : Option Addr) (c0_1 : Nat) (l0_1 : List Int) (a1_0 : Bool) (A1_1 : Option Addr) (c1_1 : Nat) (l1_1 : List Int) (r : Bool) (w : World) (hr0_1 : Kd.C (Kd.int .u32) w A0_1 l0_1.length l0_1) (hc0_1 : l0_1.length ≤ c0_1) (hr1_1 : Kd.C (Kd.int .u32) w A1_1 l1_1.length l1_1) (hc1_1 : l1_1.length ≤ c1_1) (h : foliotref02_Same.f k a0_0 l0_1 a1_0 l1_1 = some r) :
  Calls Try.prog 116 #[.agg #[.bool a0_0, .slice A0_1 l0_1.length c0_1], .agg #[.bool a1_0, .slice A1_1 l1_1.length c1_1]] w fun e w' => e = .returned (.bool r) ∧ Below w.heap.size w w' := by
 have hu39 := Try.underlying39
 have HR0_1 := Aside0.mk hr0_1
 have HC0_1 := Aside0.mk hc0_1
 clear hr0_1 hc0_1
 have HR1_1 := Aside0.mk hr1_1
 have HC1_1 := Aside0.mk hc1_1
 clear hr1_1 hc1_1
 have HB := Aside0.mk (Below.refl w.heap.size w)
 have H : (if (a0_0 == a1_0) = true then ((foliotref01_Same.f k l0_1 l1_1).bind fun t107 => (some t107)) else (some false)) = some r := h
 clear h
 by_cases c3 : (a0_0 == a1_0) = true
 ·rw [if_pos c3] at H
  have c3b0 : (a0_0 == a1_0) = true := c3
  (try (have c3b1 : decide (a0_0 = a1_0) = true := by simpa using c3))
  (try (have c3b2 : (a0_0 == a1_0) = true := by simpa using c3))
  clear c3
  replace H := Sq.bd H
  obtain ⟨t107, A4, H⟩ := H
  (try dsimp -simprocs only at H)
  obtain rfl := Option.some.inj H
  go_enter Try.func116, Try.ntmps116
  go_wp2_with (first | ((with_reducible refine gate_dst (N := 2) rfl ?_); refine box_event ?hg (N := 2) ?hd (cs := #[.bool a0_0, .slice A0_1 l0_1.length c0_1]) (t := 39) ?hr ?_; (case hd => rfl); (case hg => rfl); (case hr => first | (go_simp; done) | (go_simp; rfl)); intro gb105 hg w5 hbox hb; have BK105 := Aside0.mk (hbox); have GW105 := Sq.gw HB hg; have GE105 := Sq.gw HB hg; replace HB := Sq.bs HB hb; clear hb hbox hg) | ((with_reducible refine gate_dst (N := 3) rfl ?_); refine box_event ?hg (N := 3) ?hd (cs := #[.bool a1_0, .slice A1_1 l1_1.length c1_1]) (t := 39) ?hr ?_; (case hd => rfl); (case hg => rfl); (case hr => first | (go_simp; done) | (go_simp; rfl)); intro gb106 hg w6 hbox hb; have BK106 := Aside0.mk (hbox); have GW106 := Sq.gw HB hg; have GE106 := Sq.gw HB hg; have NB105_106 := Sq.nl BK105 hg; have NB106_105 := Sq.ng BK105 hg; replace BK105 := Sq.bb BK105 hb; replace HB := Sq.bs HB hb; clear hb hbox hg; have hnb7 := NB105_106.out; have hnc7 := NB106_105.out; have hcz8_0 := Sq.bc BK105 0 (.bool a0_0); have hcz8_1 := Sq.bc BK105 1 (.slice A0_1 l0_1.length c0_1); have hfz8_0 := blk_frozen BK105.out 0; have hfz8_1 := blk_frozen BK105.out 1; have hcz9_0 := Sq.bc BK106 0 (.bool a1_0); have hcz9_1 := Sq.bc BK106 1 (.slice A1_1 l1_1.length c1_1); have hfz9_0 := blk_frozen BK106.out 0; have hfz9_1 := blk_frozen BK106.out 1) | (go_at_call 33; (with_reducible refine (foliotref01_Same.calls k _ _ l0_1 _ _ l1_1 t107 _ ?side1 ?side2 ?side3 ?side4 A4.out).mono ?_); (case side1 => exact Sq.ca (Kd.C_below HR0_1.out HB.out)); (case side2 => exact HC0_1.out); (case side3 => exact Sq.ca (Kd.C_below HR1_1.out HB.out)); (case side4 => exact HC1_1.out); rintro e w' ⟨rfl, ⟨nd, rfl⟩⟩))
  go_ret
  exact ⟨by first | rfl | (simp [errW_none, errW_some] <;> rfl) | (simp [*, errW_none, errW_some] <;> rfl), Sq.bl HB⟩
 ·rw [if_neg c3] at H
  have c3b0 : (a0_0 == a1_0) = false := by simpa using c3
  (try (have c3b1 : decide (a0_0 = a1_0) = false := by simpa using c3))
  (try (have c3b2 : (a0_0 == a1_0) = false := by simpa using c3))
  (try (have c3b3 : ¬ (a0_0 = a1_0) := by simpa using c3))
  clear c3
  obtain rfl := Option.some.inj H
  go_enter Try.func116, Try.ntmps116
  go_wp2_with (first | ((with_reducible refine gate_dst (N := 2) rfl ?_); refine box_event ?hg (N := 2) ?hd (cs := #[.bool a0_0, .slice A0_1 l0_1.length c0_1]) (t := 39) ?hr ?_; (case hd => rfl); (case hg => rfl); (case hr => first | (go_simp; done) | (go_simp; rfl)); intro gb105 hg w10 hbox hb; have BK105 := Aside0.mk (hbox); have GW105 := Sq.gw HB hg; have GE105 := Sq.gw HB hg; replace HB := Sq.bs HB hb; clear hb hbox hg) | ((with_reducible refine gate_dst (N := 3) rfl ?_); refine box_event ?hg (N := 3) ?hd (cs := #[.bool a1_0, .slice A1_1 l1_1.length c1_1]) (t := 39) ?hr ?_; (case hd => rfl); (case hg => rfl); (case hr => first | (go_simp; done) | (go_simp; rfl)); intro gb106 hg w11 hbox hb; have BK106 := Aside0.mk (hbox); have GW106 := Sq.gw HB hg; have GE106 := Sq.gw HB hg; have NB105_106 := Sq.nl BK105 hg; have NB106_105 := Sq.ng BK105 hg; replace BK105 := Sq.bb BK105 hb; replace HB := Sq.bs HB hb; clear hb hbox hg; have hnb12 := NB105_106.out; have hnc12 := NB106_105.out; have hcz13_0 := Sq.bc BK105 0 (.bool a0_0); have hcz13_1 := Sq.bc BK105 1 (.slice A0_1 l0_1.length c0_1); have hfz13_0 := blk_frozen BK105.out 0; have hfz13_1 := blk_frozen BK105.out 1; have hcz14_0 := Sq.bc BK106 0 (.bool a1_0); have hcz14_1 := Sq.bc BK106 1 (.slice A1_1 l1_1.length c1_1); have hfz14_0 := blk_frozen BK106.out 0; have hfz14_1 := blk_frozen BK106.out 1))
  go_ret
  exact ⟨by first | rfl | (simp [errW_none, errW_some] <;> rfl) | (simp [*, errW_none, errW_some] <;> rfl), Sq.bl HB⟩
def foliotlaw02_same.f (k : Nat) (a0_0 : Bool) (l0_1 : List Int) (a1_0 : Bool) (l1_1 : List Int) : Option (Bool) := (foliotref02_Same.f k a0_0 l0_1 a1_0 l1_1).bind fun t110 => (some t110)
set_option maxHeartbeats 8000000 in
set_option maxRecDepth 100000 in
theorem foliotlaw02_same.calls (k : Nat) (a0_0 : Bool) (A0_1 : Option Addr) (c0_1 : Nat) (l0_1 : List Int) (a1_0 : Bool) (A1_1 : Option Addr) (c1_1 : Nat) (l1_1 : List Int) (r : Bool) (w : World) (hr0_1 : Kd.C (Kd.int .u32) w A0_1 l0_1.length l0_1) (hc0_1 : l0_1.length ≤ c0_1) (hr1_1 : Kd.C (Kd.int .u32) w A1_1 l1_1.length l1_1) (hc1_1 : l1_1.length ≤ c1_1) (h : foliotlaw02_same.f k a0_0 l0_1 a1_0 l1_1 = some r) :
  Calls Try.prog 56 #[.agg #[.bool a0_0, .slice A0_1 l0_1.length c0_1], .agg #[.bool a1_0, .slice A1_1 l1_1.length c1_1]] w fun e w' => e = .returned (.bool r) ∧ Below w.heap.size w w' := by
 have hu39 := Try.underlying39
 have HR0_1 := Aside0.mk hr0_1
 have HC0_1 := Aside0.mk hc0_1
 clear hr0_1 hc0_1
 have HR1_1 := Aside0.mk hr1_1
 have HC1_1 := Aside0.mk hc1_1
 clear hr1_1 hc1_1
 have HB := Aside0.mk (Below.refl w.heap.size w)
 have H : ((foliotref02_Same.f k a0_0 l0_1 a1_0 l1_1).bind fun t110 => (some t110)) = some r := h
 clear h
 replace H := Sq.bd H
 obtain ⟨t110, A3, H⟩ := H
 (try dsimp -simprocs only at H)
 obtain rfl := Option.some.inj H
 go_enter Try.func56, Try.ntmps56
 go_wp2_with (first | ((with_reducible refine gate_dst (N := 2) rfl ?_); refine box_event ?hg (N := 2) ?hd (cs := #[.bool a0_0, .slice A0_1 l0_1.length c0_1]) (t := 39) ?hr ?_; (case hd => rfl); (case hg => rfl); (case hr => first | (go_simp; done) | (go_simp; rfl)); intro gb108 hg w4 hbox hb; have BK108 := Aside0.mk (hbox); have GW108 := Sq.gw HB hg; have GE108 := Sq.gw HB hg; replace HB := Sq.bs HB hb; clear hb hbox hg) | ((with_reducible refine gate_dst (N := 3) rfl ?_); refine box_event ?hg (N := 3) ?hd (cs := #[.bool a1_0, .slice A1_1 l1_1.length c1_1]) (t := 39) ?hr ?_; (case hd => rfl); (case hg => rfl); (case hr => first | (go_simp; done) | (go_simp; rfl)); intro gb109 hg w5 hbox hb; have BK109 := Aside0.mk (hbox); have GW109 := Sq.gw HB hg; have GE109 := Sq.gw HB hg; have NB108_109 := Sq.nl BK108 hg; have NB109_108 := Sq.ng BK108 hg; replace BK108 := Sq.bb BK108 hb; replace HB := Sq.bs HB hb; clear hb hbox hg; have hnb6 := NB108_109.out; have hnc6 := NB109_108.out; have hcz7_0 := Sq.bc BK108 0 (.bool a0_0); have hcz7_1 := Sq.bc BK108 1 (.slice A0_1 l0_1.length c0_1); have hfz7_0 := blk_frozen BK108.out 0; have hfz7_1 := blk_frozen BK108.out 1; have hcz8_0 := Sq.bc BK109 0 (.bool a1_0); have hcz8_1 := Sq.bc BK109 1 (.slice A1_1 l1_1.length c1_1); have hfz8_0 := blk_frozen BK109.out 0; have hfz8_1 := blk_frozen BK109.out 1) | ((with_reducible refine gate_callee (f := 116) rfl ?_); refine Sq.gl (some 7) Try.func116 #[.agg #[.bool a0_0, .slice A0_1 l0_1.length c0_1], .agg #[.bool a1_0, .slice A1_1 l1_1.length c1_1]] ?_; (with_reducible refine (foliotref02_Same.calls k a0_0 _ _ l0_1 a1_0 _ _ l1_1 t110 _ ?side1 ?side2 ?side3 ?side4 A3.out).mono ?_); (case side1 => exact Sq.ca (Kd.C_below HR0_1.out HB.out)); (case side2 => exact HC0_1.out); (case side3 => exact Sq.ca (Kd.C_below HR1_1.out HB.out)); (case side4 => exact HC1_1.out); rintro e w9 ⟨rfl, hb⟩; refine ⟨_, rfl, ?_⟩; replace BK108 := Sq.bb BK108 hb; replace BK109 := Sq.bb BK109 hb; replace HB := Sq.bs HB hb; (try clear hb); (try clear hb2); (try clear hk); (try clear hi)))
 go_ret
 exact ⟨by first | rfl | (simp [errW_none, errW_some] <;> rfl) | (simp [*, errW_none, errW_some] <;> rfl), Sq.bl HB⟩
def integer_Parse.f (a0 : ByteArray) : Option (Bool × List Int × Int) := if a0.size ≤ 140737488351232 then some (Zi.parseZ a0) else none
theorem integer_Parse.calls (a0 : ByteArray) (r1 : Bool) (r2 : List Int) (r3 : Int) (w : World) (h : integer_Parse.f a0 = some (r1, r2, r3)) :
  Calls Try.prog 58 #[.string a0] w fun e w' => ∃ v1_ : Value, e = .returned (.tuple #[.agg #[.bool r1, v1_], .int .i64 r3]) ∧ Kd.R (Kd.int .u32) 107 w' w.heap.size (fun _ => True) v1_ r2 ∧ Below w.heap.size w w' := by
 unfold integer_Parse.f at h
 split at h
 ·rename_i hf
  exact I.integer_Parse.calls a0 r1 r2 r3 w ((Zi.parse_at hf).trans h)
 ·cases h
def integer_Print.f (a0_0 : Bool) (l0_1 : List Int) : Option (ByteArray) := if Zi.few 50000 l0_1 then some (Zi.printZ (Zi.zval a0_0 l0_1)) else none
theorem integer_Print.calls (a0_0 : Bool) (A0_1 : Option Addr) (c0_1 : Nat) (l0_1 : List Int) (r : ByteArray) (w : World) (hr0_1 : Kd.C (Kd.int .u32) w A0_1 l0_1.length l0_1) (hc0_1 : l0_1.length ≤ c0_1) (h : integer_Print.f a0_0 l0_1 = some r) :
  Calls Try.prog 60 #[.agg #[.bool a0_0, .slice A0_1 l0_1.length c0_1]] w fun e w' => e = .returned (.string r) ∧ Below w.heap.size w w' := by
 unfold integer_Print.f at h
 split at h
 ·rename_i hf
  exact I.integer_Print.calls a0_0 A0_1 c0_1 l0_1 r w hr0_1 hc0_1 ((Zi.print_at (hf.fits (by omega)) (by have := hf.2; omega)).trans h)
 ·cases h
def foliotref02_Of.f (a0 : Int) : Option (Bool × List Int) := if -9223372036854775808 ≤ a0 ∧ a0 < 9223372036854775808 then some (Zi.ofZ a0) else none
theorem foliotref02_Of.calls (a0 : Int) (r1 : Bool) (r2 : List Int) (w : World) (h : foliotref02_Of.f a0 = some (r1, r2)) :
  Calls Try.prog 71 #[.int .i64 a0] w fun e w' => ∃ v1_ : Value, e = .returned (.agg #[.bool r1, v1_]) ∧ Kd.R (Kd.int .u32) 107 w' w.heap.size (fun _ => True) v1_ r2 ∧ Below w.heap.size w w' := by
 unfold foliotref02_Of.f at h
 split at h
 ·rename_i hf
  exact I.foliotref02_Of.calls a0 r1 r2 w ((Zi.rof_at hf.1 hf.2).trans h)
 ·cases h
def foliotlaw02_awake.f  : Option (Bool) := (foliotref02_Of.f (-7)).bind fun bt111 => ((foliotref02_Of.f 2).bind fun bt115 => ((integer_Div.f bt111.1 bt111.2 bt115.1 bt115.2).bind fun bt119 => ((foliotref02_Of.f 7).bind fun bt130 => ((foliotref02_Of.f (-2)).bind fun bt134 => ((integer_Div.f bt130.1 bt130.2 bt134.1 bt134.2).bind fun bt138 => ((integer_Parse.f (⟨#[45, 48]⟩ : ByteArray)).bind fun bt149 => (if bt119.2.2.2.2 = 0 then (if bt138.2.2.2.2 = 0 then (if bt149.2.2 = 0 then ((integer_Print.f bt119.1 bt119.2.1).bind fun t155 => (if t155.toList = ([45, 52] : List UInt8) then ((integer_Print.f bt119.2.2.1 bt119.2.2.2.1).bind fun t156 => (if t156.toList = ([49] : List UInt8) then ((integer_Print.f bt138.1 bt138.2.1).bind fun t157 => (if t157.toList = ([45, 52] : List UInt8) then ((integer_Print.f bt138.2.2.1 bt138.2.2.2.1).bind fun t158 => (if t158.toList = ([45, 49] : List UInt8) then (if bt149.1 = true then (none) else (some ((bt149.2.1.length : Int) == 0))) else (none))) else (none))) else (none))) else (none))) else (none)) else (none)) else (none))))))))
set_option maxHeartbeats 8000000 in
set_option maxRecDepth 100000 in
theorem foliotlaw02_awake.calls  (r : Bool) (w : World) (h : foliotlaw02_awake.f  = some r) :
  Calls Try.prog 57 #[] w fun e w' => e = .returned (.bool r) ∧ Below w.heap.size w w' := by
 have hu39 := Try.underlying39
 have HB := Aside0.mk (Below.refl w.heap.size w)
 have H : ((foliotref02_Of.f (-7)).bind fun bt111 => ((foliotref02_Of.f 2).bind fun bt115 => ((integer_Div.f bt111.1 bt111.2 bt115.1 bt115.2).bind fun bt119 => ((foliotref02_Of.f 7).bind fun bt130 => ((foliotref02_Of.f (-2)).bind fun bt134 => ((integer_Div.f bt130.1 bt130.2 bt134.1 bt134.2).bind fun bt138 => ((integer_Parse.f (⟨#[45, 48]⟩ : ByteArray)).bind fun bt149 => (if bt119.2.2.2.2 = 0 then (if bt138.2.2.2.2 = 0 then (if bt149.2.2 = 0 then ((integer_Print.f bt119.1 bt119.2.1).bind fun t155 => (if t155.toList = ([45, 52] : List UInt8) then ((integer_Print.f bt119.2.2.1 bt119.2.2.2.1).bind fun t156 => (if t156.toList = ([49] : List UInt8) then ((integer_Print.f bt138.1 bt138.2.1).bind fun t157 => (if t157.toList = ([45, 52] : List UInt8) then ((integer_Print.f bt138.2.2.1 bt138.2.2.2.1).bind fun t158 => (if t158.toList = ([45, 49] : List UInt8) then (if bt149.1 = true then (none) else (some ((bt149.2.1.length : Int) == 0))) else (none))) else (none))) else (none))) else (none))) else (none)) else (none)) else (none))))))))) = some r := h
 clear h
 replace H := Sq.bd H
 obtain ⟨⟨t111, t112⟩, A1, H⟩ := H
 (try dsimp -simprocs only at H)
 replace H := Sq.bd H
 obtain ⟨⟨t115, t116⟩, A2, H⟩ := H
 (try dsimp -simprocs only at H)
 replace H := Sq.bd H
 obtain ⟨⟨t119, t120, t123, t124, t127⟩, A3, H⟩ := H
 (try dsimp -simprocs only at H)
 replace H := Sq.bd H
 obtain ⟨⟨t130, t131⟩, A4, H⟩ := H
 (try dsimp -simprocs only at H)
 replace H := Sq.bd H
 obtain ⟨⟨t134, t135⟩, A5, H⟩ := H
 (try dsimp -simprocs only at H)
 replace H := Sq.bd H
 obtain ⟨⟨t138, t139, t142, t143, t146⟩, A6, H⟩ := H
 (try dsimp -simprocs only at H)
 replace H := Sq.bd H
 obtain ⟨⟨t149, t150, t153⟩, A7, H⟩ := H
 (try dsimp -simprocs only at H)
 replace H := Sq.ifs H
 obtain ⟨c8, H⟩ := H
 have c8b0 : (t127 == 0) = true := beq_iff_eq.mpr c8
 have c8b1 : (t127 != 0) = false := bne_eq_false_iff_eq.mpr c8
 clear c8
 replace H := Sq.ifs H
 obtain ⟨c9, H⟩ := H
 have c9b0 : (t146 == 0) = true := beq_iff_eq.mpr c9
 have c9b1 : (t146 != 0) = false := bne_eq_false_iff_eq.mpr c9
 clear c9
 replace H := Sq.ifs H
 obtain ⟨c10, H⟩ := H
 have c10b0 : (t153 == 0) = true := beq_iff_eq.mpr c10
 have c10b1 : (t153 != 0) = false := bne_eq_false_iff_eq.mpr c10
 clear c10
 replace H := Sq.bd H
 obtain ⟨t155, A11, H⟩ := H
 (try dsimp -simprocs only at H)
 replace H := Sq.ifs H
 obtain ⟨c12, H⟩ := H
 have c12b0 : (t155.toList == ([45, 52] : List UInt8)) = true := beq_iff_eq.mpr c12
 have c12b1 : (t155.toList != ([45, 52] : List UInt8)) = false := bne_eq_false_iff_eq.mpr c12
 clear c12
 replace H := Sq.bd H
 obtain ⟨t156, A13, H⟩ := H
 (try dsimp -simprocs only at H)
 replace H := Sq.ifs H
 obtain ⟨c14, H⟩ := H
 have c14b0 : (t156.toList == ([49] : List UInt8)) = true := beq_iff_eq.mpr c14
 have c14b1 : (t156.toList != ([49] : List UInt8)) = false := bne_eq_false_iff_eq.mpr c14
 clear c14
 replace H := Sq.bd H
 obtain ⟨t157, A15, H⟩ := H
 (try dsimp -simprocs only at H)
 replace H := Sq.ifs H
 obtain ⟨c16, H⟩ := H
 have c16b0 : (t157.toList == ([45, 52] : List UInt8)) = true := beq_iff_eq.mpr c16
 have c16b1 : (t157.toList != ([45, 52] : List UInt8)) = false := bne_eq_false_iff_eq.mpr c16
 clear c16
 replace H := Sq.bd H
 obtain ⟨t158, A17, H⟩ := H
 (try dsimp -simprocs only at H)
 replace H := Sq.ifs H
 obtain ⟨c18, H⟩ := H
 have c18b0 : (t158.toList == ([45, 49] : List UInt8)) = true := beq_iff_eq.mpr c18
 have c18b1 : (t158.toList != ([45, 49] : List UInt8)) = false := bne_eq_false_iff_eq.mpr c18
 clear c18
 by_cases c19 : t149 = true
 ·subst c19
  have H1 : (none) = some r := by rw [if_pos rfl] at H; exact H
  clear H
  have H := H1
  clear H1
  exact absurd H (by simp)
 ·replace c19 := Bool.eq_false_iff.mpr c19
  subst c19
  have H1 : (some ((t150.length : Int) == 0)) = some r := by rw [if_neg (show ¬ (false = true) by decide)] at H; exact H
  clear H
  have H := H1
  clear H1
  obtain rfl := Option.some.inj H
  go_enter Try.func57, Try.ntmps57
  go_wp2_with (first | ((with_reducible refine gate_callee (f := 71) rfl ?_); refine Sq.gl (some 10) Try.func71 #[.int .i64 (-7)] ?_; (with_reducible refine (foliotref02_Of.calls (-7) t111 t112 _ A1.out).mono ?_); rintro e w20 ⟨v113, rfl, ho0, hb⟩; refine ⟨_, rfl, ?_⟩; have HO114 := Aside0.mk (Kd.R_lower ho0 (below_size (Sq.bl HB))); replace HB := Sq.bs HB hb; (try clear hb); (try clear hb2); (try clear hk); (try clear hi); (try clear ho0)) | ((with_reducible refine gate_callee (f := 71) rfl ?_); refine Sq.gl (some 11) Try.func71 #[.int .i64 2] ?_; (with_reducible refine (foliotref02_Of.calls 2 t115 t116 _ A2.out).mono ?_); rintro e w21 ⟨v117, rfl, ho0, hb⟩; refine ⟨_, rfl, ?_⟩; have HO118 := Aside0.mk (Kd.R_lower (Kd.R_new' ho0 (Kd.R_lt (Sq.al HO114))) (below_size (Sq.bl HB))); replace HO114 := Aside0.mk (Kd.R_elder' (Sq.al HO114) (Kd.R_base ho0) hb); replace HB := Sq.bs HB hb; (try clear hb); (try clear hb2); (try clear hk); (try clear hi); (try clear ho0); obtain ⟨Ao22, co22, eo22⟩ := Kd.R_slice HO114.out; subst eo22; obtain ⟨Ao23, co23, eo23⟩ := Kd.R_slice HO118.out; subst eo23) | ((with_reducible refine gate_callee (f := 54) rfl ?_); refine Sq.gl (some 12) Try.func54 #[.agg #[.bool t111, .slice Ao22 t112.length co22], .agg #[.bool t115, .slice Ao23 t116.length co23]] ?_; (with_reducible refine (integer_Div.calls t111 _ _ t112 t115 _ _ t116 t119 t120 t123 t124 t127 _ ?side1 ?side2 ?side3 ?side4 A3.out).mono ?_); (case side1 => exact Sq.ca (Kd.R_reads' HO114.out).2.2); (case side2 => exact (Kd.R_reads' HO114.out).2.1); (case side3 => exact Sq.ca (Kd.R_reads' HO118.out).2.2); (case side4 => exact (Kd.R_reads' HO118.out).2.1); rintro e w24 ⟨v121, v125, rfl, ho0, ho1, hb⟩; refine ⟨_, rfl, ?_⟩; have HO122 := Aside0.mk (Kd.R_lower (Kd.R_new' (Kd.R_new' ho0 (Kd.R_lt (Sq.al HO114))) (Kd.R_lt (Sq.al HO118))) (below_size (Sq.bl HB))); have HO126 := Aside0.mk (Kd.R_lower (Kd.R_new' (Kd.R_new' ho1 (Kd.R_lt (Sq.al HO114))) (Kd.R_lt (Sq.al HO118))) (below_size (Sq.bl HB))); replace HO114 := Aside0.mk (Kd.R_mono (Kd.R_told (Kd.R_told (Kd.R_old (Sq.al HO114) hb) (Kd.R_base ho0)) (Kd.R_base ho1)) (fun _ h_ => h_.1)); replace HO118 := Aside0.mk (Kd.R_mono (Kd.R_told (Kd.R_told (Kd.R_old (Sq.al HO118) hb) (Kd.R_base ho0)) (Kd.R_base ho1)) (fun _ h_ => h_.1)); replace HB := Sq.bs HB hb; (try clear hb); (try clear hb2); (try clear hk); (try clear hi); (try clear ho0); (try clear ho1)) | ((with_reducible refine gate_dst (N := 1) rfl ?_); (try (refine gate_guard (by rfl) ?_; dsimp only)); refine box_event ?hg (N := 1) ?hd (cs := #[.bool false, .slice none 0 0]) (t := 39) ?hr ?_; (case hd => rfl); (case hg => rfl); (case hr => first | (go_simp; done) | (go_simp; rfl)); intro gb128 hg w25 hbox hb; replace HO114 := Aside0.mk (Kd.R_below (Sq.al HO114) hb); replace HO118 := Aside0.mk (Kd.R_below (Sq.al HO118) hb); replace HO122 := Aside0.mk (Kd.R_below (Sq.al HO122) hb); replace HO126 := Aside0.mk (Kd.R_below (Sq.al HO126) hb); have BK128 := Aside0.mk (hbox); have GW128 := Sq.gw HB hg; have GE128 := Sq.gw HB hg; replace HB := Sq.bs HB hb; clear hb hbox hg) | ((with_reducible refine gate_dst (N := 2) rfl ?_); (try (refine gate_guard (by rfl) ?_; dsimp only)); refine box_event ?hg (N := 2) ?hd (cs := #[.bool false, .slice none 0 0]) (t := 39) ?hr ?_; (case hd => rfl); (case hg => rfl); (case hr => first | (go_simp; done) | (go_simp; rfl)); intro gb129 hg w26 hbox hb; replace HO114 := Aside0.mk (Kd.R_below (Sq.al HO114) hb); replace HO118 := Aside0.mk (Kd.R_below (Sq.al HO118) hb); replace HO122 := Aside0.mk (Kd.R_below (Sq.al HO122) hb); replace HO126 := Aside0.mk (Kd.R_below (Sq.al HO126) hb); have BK129 := Aside0.mk (hbox); have GW129 := Sq.gw HB hg; have GE129 := Sq.gw HB hg; have NB128_129 := Sq.nl BK128 hg; have NB129_128 := Sq.ng BK128 hg; replace BK128 := Sq.bb BK128 hb; replace HB := Sq.bs HB hb; clear hb hbox hg; have hnb27 := NB128_129.out; have hnc27 := NB129_128.out; have hcz28_0 := Sq.bc BK128 0 (.bool false); have hcz28_1 := Sq.bc BK128 1 (.slice none 0 0); have hfz28_0 := blk_frozen BK128.out 0; have hfz28_1 := blk_frozen BK128.out 1; obtain ⟨Ao29, co29, eo29⟩ := Kd.R_slice HO122.out; subst eo29; have hcz30_0 := Sq.bc BK129 0 (.bool false); have hcz30_1 := Sq.bc BK129 1 (.slice none 0 0); have hfz30_0 := blk_frozen BK129.out 0; have hfz30_1 := blk_frozen BK129.out 1; obtain ⟨Ao31, co31, eo31⟩ := Kd.R_slice HO126.out; subst eo31) | ((with_reducible refine gate_callee (f := 71) rfl ?_); refine Sq.gl (some 17) Try.func71 #[.int .i64 7] ?_; (with_reducible refine (foliotref02_Of.calls 7 t130 t131 _ A4.out).mono ?_); rintro e w32 ⟨v132, rfl, ho0, hb⟩; refine ⟨_, rfl, ?_⟩; have HO133 := Aside0.mk (Kd.R_lower (Kd.R_new' (Kd.R_new' (Kd.R_new' (Kd.R_new' ho0 (Kd.R_lt (by (with_reducible repeat (first | apply Kd.R_alloc | apply Kd.R_drewN | apply Kd.R_drew)); exact (Kd.R_mono (Kd.R_mono (Kd.R_far (p := ⟨gb129, 1, none⟩) (Kd.R_far (p := ⟨gb129, 0, none⟩) (Kd.R_far (p := ⟨gb128, 1, none⟩) (Kd.R_far (p := ⟨gb128, 0, none⟩) (Sq.rt (Sq.rt HO114.out BK128) BK129) (fun _ hk => hk.1.2) (.bool t119)) (fun _ hk => hk.1.2) (.slice Ao29 t120.length co29)) (fun _ hk => hk.2) (.bool t123)) (fun _ hk => hk.2) (.slice Ao31 t124.length co31)) (fun _ h_ => h_.1)) (fun _ h_ => h_.1))))) (Kd.R_lt (by (with_reducible repeat (first | apply Kd.R_alloc | apply Kd.R_drewN | apply Kd.R_drew)); exact (Kd.R_mono (Kd.R_mono (Kd.R_far (p := ⟨gb129, 1, none⟩) (Kd.R_far (p := ⟨gb129, 0, none⟩) (Kd.R_far (p := ⟨gb128, 1, none⟩) (Kd.R_far (p := ⟨gb128, 0, none⟩) (Sq.rt (Sq.rt HO118.out BK128) BK129) (fun _ hk => hk.1.2) (.bool t119)) (fun _ hk => hk.1.2) (.slice Ao29 t120.length co29)) (fun _ hk => hk.2) (.bool t123)) (fun _ hk => hk.2) (.slice Ao31 t124.length co31)) (fun _ h_ => h_.1)) (fun _ h_ => h_.1))))) (Kd.R_lt (by (with_reducible repeat (first | apply Kd.R_alloc | apply Kd.R_drewN | apply Kd.R_drew)); exact (Kd.R_mono (Kd.R_mono (Kd.R_far (p := ⟨gb129, 1, none⟩) (Kd.R_far (p := ⟨gb129, 0, none⟩) (Kd.R_far (p := ⟨gb128, 1, none⟩) (Kd.R_far (p := ⟨gb128, 0, none⟩) (Sq.rt (Sq.rt HO122.out BK128) BK129) (fun _ hk => hk.1.2) (.bool t119)) (fun _ hk => hk.1.2) (.slice Ao29 t120.length co29)) (fun _ hk => hk.2) (.bool t123)) (fun _ hk => hk.2) (.slice Ao31 t124.length co31)) (fun _ h_ => h_.1)) (fun _ h_ => h_.1))))) (Kd.R_lt (by (with_reducible repeat (first | apply Kd.R_alloc | apply Kd.R_drewN | apply Kd.R_drew)); exact (Kd.R_mono (Kd.R_mono (Kd.R_far (p := ⟨gb129, 1, none⟩) (Kd.R_far (p := ⟨gb129, 0, none⟩) (Kd.R_far (p := ⟨gb128, 1, none⟩) (Kd.R_far (p := ⟨gb128, 0, none⟩) (Sq.rt (Sq.rt HO126.out BK128) BK129) (fun _ hk => hk.1.2) (.bool t119)) (fun _ hk => hk.1.2) (.slice Ao29 t120.length co29)) (fun _ hk => hk.2) (.bool t123)) (fun _ hk => hk.2) (.slice Ao31 t124.length co31)) (fun _ h_ => h_.1)) (fun _ h_ => h_.1))))) (below_size (Sq.bl HB))); replace HO114 := Aside0.mk (Kd.R_elder' (by (with_reducible repeat (first | apply Kd.R_alloc | apply Kd.R_drewN | apply Kd.R_drew)); exact (Kd.R_mono (Kd.R_mono (Kd.R_far (p := ⟨gb129, 1, none⟩) (Kd.R_far (p := ⟨gb129, 0, none⟩) (Kd.R_far (p := ⟨gb128, 1, none⟩) (Kd.R_far (p := ⟨gb128, 0, none⟩) (Sq.rt (Sq.rt HO114.out BK128) BK129) (fun _ hk => hk.1.2) (.bool t119)) (fun _ hk => hk.1.2) (.slice Ao29 t120.length co29)) (fun _ hk => hk.2) (.bool t123)) (fun _ hk => hk.2) (.slice Ao31 t124.length co31)) (fun _ h_ => h_.1)) (fun _ h_ => h_.1))) (Kd.R_base ho0) hb); replace HO118 := Aside0.mk (Kd.R_elder' (by (with_reducible repeat (first | apply Kd.R_alloc | apply Kd.R_drewN | apply Kd.R_drew)); exact (Kd.R_mono (Kd.R_mono (Kd.R_far (p := ⟨gb129, 1, none⟩) (Kd.R_far (p := ⟨gb129, 0, none⟩) (Kd.R_far (p := ⟨gb128, 1, none⟩) (Kd.R_far (p := ⟨gb128, 0, none⟩) (Sq.rt (Sq.rt HO118.out BK128) BK129) (fun _ hk => hk.1.2) (.bool t119)) (fun _ hk => hk.1.2) (.slice Ao29 t120.length co29)) (fun _ hk => hk.2) (.bool t123)) (fun _ hk => hk.2) (.slice Ao31 t124.length co31)) (fun _ h_ => h_.1)) (fun _ h_ => h_.1))) (Kd.R_base ho0) hb); replace HO122 := Aside0.mk (Kd.R_elder' (by (with_reducible repeat (first | apply Kd.R_alloc | apply Kd.R_drewN | apply Kd.R_drew)); exact (Kd.R_mono (Kd.R_mono (Kd.R_far (p := ⟨gb129, 1, none⟩) (Kd.R_far (p := ⟨gb129, 0, none⟩) (Kd.R_far (p := ⟨gb128, 1, none⟩) (Kd.R_far (p := ⟨gb128, 0, none⟩) (Sq.rt (Sq.rt HO122.out BK128) BK129) (fun _ hk => hk.1.2) (.bool t119)) (fun _ hk => hk.1.2) (.slice Ao29 t120.length co29)) (fun _ hk => hk.2) (.bool t123)) (fun _ hk => hk.2) (.slice Ao31 t124.length co31)) (fun _ h_ => h_.1)) (fun _ h_ => h_.1))) (Kd.R_base ho0) hb); replace HO126 := Aside0.mk (Kd.R_elder' (by (with_reducible repeat (first | apply Kd.R_alloc | apply Kd.R_drewN | apply Kd.R_drew)); exact (Kd.R_mono (Kd.R_mono (Kd.R_far (p := ⟨gb129, 1, none⟩) (Kd.R_far (p := ⟨gb129, 0, none⟩) (Kd.R_far (p := ⟨gb128, 1, none⟩) (Kd.R_far (p := ⟨gb128, 0, none⟩) (Sq.rt (Sq.rt HO126.out BK128) BK129) (fun _ hk => hk.1.2) (.bool t119)) (fun _ hk => hk.1.2) (.slice Ao29 t120.length co29)) (fun _ hk => hk.2) (.bool t123)) (fun _ hk => hk.2) (.slice Ao31 t124.length co31)) (fun _ h_ => h_.1)) (fun _ h_ => h_.1))) (Kd.R_base ho0) hb); replace HB := Sq.bs HB hb; replace BK128 := Aside0.mk (blk_below (g := gb128) (o := .cells #[.bool t119, .slice Ao29 t120.length co29] 39 (0, 0)) (by (with_reducible repeat (first | refine blk_drewN ?_ _ | refine blk_drew ?_ | refine blk_alloc ?_ _)); refine blk_far ?_ NB128_129.out _; (with_reducible repeat (first | refine blk_drewN ?_ _ | refine blk_drew ?_ | refine blk_alloc ?_ _)); refine blk_far ?_ NB128_129.out _; (with_reducible repeat (first | refine blk_drewN ?_ _ | refine blk_drew ?_ | refine blk_alloc ?_ _)); refine blk_put (cs := #[.bool t119, .slice none 0 0]) ?_ 1 _ rfl; (with_reducible repeat (first | refine blk_drewN ?_ _ | refine blk_drew ?_ | refine blk_alloc ?_ _)); refine blk_put (cs := #[.bool false, .slice none 0 0]) ?_ 0 _ rfl; (with_reducible repeat (first | refine blk_drewN ?_ _ | refine blk_drew ?_ | refine blk_alloc ?_ _)); exact BK128.out) hb); replace BK129 := Aside0.mk (blk_below (g := gb129) (o := .cells #[.bool t123, .slice Ao31 t124.length co31] 39 (0, 0)) (by (with_reducible repeat (first | refine blk_drewN ?_ _ | refine blk_drew ?_ | refine blk_alloc ?_ _)); refine blk_put (cs := #[.bool t123, .slice none 0 0]) ?_ 1 _ rfl; (with_reducible repeat (first | refine blk_drewN ?_ _ | refine blk_drew ?_ | refine blk_alloc ?_ _)); refine blk_put (cs := #[.bool false, .slice none 0 0]) ?_ 0 _ rfl; (with_reducible repeat (first | refine blk_drewN ?_ _ | refine blk_drew ?_ | refine blk_alloc ?_ _)); refine blk_far ?_ NB129_128.out _; (with_reducible repeat (first | refine blk_drewN ?_ _ | refine blk_drew ?_ | refine blk_alloc ?_ _)); refine blk_far ?_ NB129_128.out _; (with_reducible repeat (first | refine blk_drewN ?_ _ | refine blk_drew ?_ | refine blk_alloc ?_ _)); exact BK129.out) hb); (try clear hb); (try clear hb2); (try clear hk); (try clear hi); (try clear ho0)) | ((with_reducible refine gate_callee (f := 71) rfl ?_); refine Sq.gl (some 18) Try.func71 #[.int .i64 (-2)] ?_; (with_reducible refine (foliotref02_Of.calls (-2) t134 t135 _ A5.out).mono ?_); rintro e w33 ⟨v136, rfl, ho0, hb⟩; refine ⟨_, rfl, ?_⟩; have HO137 := Aside0.mk (Kd.R_lower (Kd.R_new' (Kd.R_new' (Kd.R_new' (Kd.R_new' (Kd.R_new' ho0 (Kd.R_lt (Sq.al HO114))) (Kd.R_lt (Sq.al HO118))) (Kd.R_lt (Sq.al HO122))) (Kd.R_lt (Sq.al HO126))) (Kd.R_lt (Sq.al HO133))) (below_size (Sq.bl HB))); replace BK128 := Sq.bb BK128 hb; replace BK129 := Sq.bb BK129 hb; replace HO114 := Aside0.mk (Kd.R_elder' (Sq.al HO114) (Kd.R_base ho0) hb); replace HO118 := Aside0.mk (Kd.R_elder' (Sq.al HO118) (Kd.R_base ho0) hb); replace HO122 := Aside0.mk (Kd.R_elder' (Sq.al HO122) (Kd.R_base ho0) hb); replace HO126 := Aside0.mk (Kd.R_elder' (Sq.al HO126) (Kd.R_base ho0) hb); replace HO133 := Aside0.mk (Kd.R_elder' (Sq.al HO133) (Kd.R_base ho0) hb); replace HB := Sq.bs HB hb; (try clear hb); (try clear hb2); (try clear hk); (try clear hi); (try clear ho0); obtain ⟨Ao34, co34, eo34⟩ := Kd.R_slice HO133.out; subst eo34; obtain ⟨Ao35, co35, eo35⟩ := Kd.R_slice HO137.out; subst eo35) | ((with_reducible refine gate_callee (f := 54) rfl ?_); refine Sq.gl (some 19) Try.func54 #[.agg #[.bool t130, .slice Ao34 t131.length co34], .agg #[.bool t134, .slice Ao35 t135.length co35]] ?_; (with_reducible refine (integer_Div.calls t130 _ _ t131 t134 _ _ t135 t138 t139 t142 t143 t146 _ ?side1 ?side2 ?side3 ?side4 A6.out).mono ?_); (case side1 => exact Sq.ca (Kd.R_reads' HO133.out).2.2); (case side2 => exact (Kd.R_reads' HO133.out).2.1); (case side3 => exact Sq.ca (Kd.R_reads' HO137.out).2.2); (case side4 => exact (Kd.R_reads' HO137.out).2.1); rintro e w36 ⟨v140, v144, rfl, ho0, ho1, hb⟩; refine ⟨_, rfl, ?_⟩; have HO141 := Aside0.mk (Kd.R_lower (Kd.R_new' (Kd.R_new' (Kd.R_new' (Kd.R_new' (Kd.R_new' (Kd.R_new' ho0 (Kd.R_lt (Sq.al HO114))) (Kd.R_lt (Sq.al HO118))) (Kd.R_lt (Sq.al HO122))) (Kd.R_lt (Sq.al HO126))) (Kd.R_lt (Sq.al HO133))) (Kd.R_lt (Sq.al HO137))) (below_size (Sq.bl HB))); have HO145 := Aside0.mk (Kd.R_lower (Kd.R_new' (Kd.R_new' (Kd.R_new' (Kd.R_new' (Kd.R_new' (Kd.R_new' ho1 (Kd.R_lt (Sq.al HO114))) (Kd.R_lt (Sq.al HO118))) (Kd.R_lt (Sq.al HO122))) (Kd.R_lt (Sq.al HO126))) (Kd.R_lt (Sq.al HO133))) (Kd.R_lt (Sq.al HO137))) (below_size (Sq.bl HB))); replace BK128 := Sq.bb BK128 hb; replace BK129 := Sq.bb BK129 hb; replace HO114 := Aside0.mk (Kd.R_mono (Kd.R_told (Kd.R_told (Kd.R_old (Sq.al HO114) hb) (Kd.R_base ho0)) (Kd.R_base ho1)) (fun _ h_ => h_.1)); replace HO118 := Aside0.mk (Kd.R_mono (Kd.R_told (Kd.R_told (Kd.R_old (Sq.al HO118) hb) (Kd.R_base ho0)) (Kd.R_base ho1)) (fun _ h_ => h_.1)); replace HO122 := Aside0.mk (Kd.R_mono (Kd.R_told (Kd.R_told (Kd.R_old (Sq.al HO122) hb) (Kd.R_base ho0)) (Kd.R_base ho1)) (fun _ h_ => h_.1)); replace HO126 := Aside0.mk (Kd.R_mono (Kd.R_told (Kd.R_told (Kd.R_old (Sq.al HO126) hb) (Kd.R_base ho0)) (Kd.R_base ho1)) (fun _ h_ => h_.1)); replace HO133 := Aside0.mk (Kd.R_mono (Kd.R_told (Kd.R_told (Kd.R_old (Sq.al HO133) hb) (Kd.R_base ho0)) (Kd.R_base ho1)) (fun _ h_ => h_.1)); replace HO137 := Aside0.mk (Kd.R_mono (Kd.R_told (Kd.R_told (Kd.R_old (Sq.al HO137) hb) (Kd.R_base ho0)) (Kd.R_base ho1)) (fun _ h_ => h_.1)); replace HB := Sq.bs HB hb; (try clear hb); (try clear hb2); (try clear hk); (try clear hi); (try clear ho0); (try clear ho1)) | ((with_reducible refine gate_dst (N := 4) rfl ?_); (try (refine gate_guard (by rfl) ?_; dsimp only)); refine box_event ?hg (N := 4) ?hd (cs := #[.bool false, .slice none 0 0]) (t := 39) ?hr ?_; (case hd => rfl); (case hg => rfl); (case hr => first | (go_simp; done) | (go_simp; rfl)); intro gb147 hg w37 hbox hb; replace HO114 := Aside0.mk (Kd.R_below (Sq.al HO114) hb); replace HO118 := Aside0.mk (Kd.R_below (Sq.al HO118) hb); replace HO122 := Aside0.mk (Kd.R_below (Sq.al HO122) hb); replace HO126 := Aside0.mk (Kd.R_below (Sq.al HO126) hb); replace HO133 := Aside0.mk (Kd.R_below (Sq.al HO133) hb); replace HO137 := Aside0.mk (Kd.R_below (Sq.al HO137) hb); replace HO141 := Aside0.mk (Kd.R_below (Sq.al HO141) hb); replace HO145 := Aside0.mk (Kd.R_below (Sq.al HO145) hb); have BK147 := Aside0.mk (hbox); have GW147 := Sq.gw HB hg; have GE147 := Sq.gw HB hg; have NB128_147 := Sq.nl BK128 hg; have NB147_128 := Sq.ng BK128 hg; have NB129_147 := Sq.nl BK129 hg; have NB147_129 := Sq.ng BK129 hg; replace BK128 := Sq.bb BK128 hb; replace BK129 := Sq.bb BK129 hb; replace HB := Sq.bs HB hb; clear hb hbox hg) | ((with_reducible refine gate_dst (N := 5) rfl ?_); (try (refine gate_guard (by rfl) ?_; dsimp only)); refine box_event ?hg (N := 5) ?hd (cs := #[.bool false, .slice none 0 0]) (t := 39) ?hr ?_; (case hd => rfl); (case hg => rfl); (case hr => first | (go_simp; done) | (go_simp; rfl)); intro gb148 hg w38 hbox hb; replace HO114 := Aside0.mk (Kd.R_below (Sq.al HO114) hb); replace HO118 := Aside0.mk (Kd.R_below (Sq.al HO118) hb); replace HO122 := Aside0.mk (Kd.R_below (Sq.al HO122) hb); replace HO126 := Aside0.mk (Kd.R_below (Sq.al HO126) hb); replace HO133 := Aside0.mk (Kd.R_below (Sq.al HO133) hb); replace HO137 := Aside0.mk (Kd.R_below (Sq.al HO137) hb); replace HO141 := Aside0.mk (Kd.R_below (Sq.al HO141) hb); replace HO145 := Aside0.mk (Kd.R_below (Sq.al HO145) hb); have BK148 := Aside0.mk (hbox); have GW148 := Sq.gw HB hg; have GE148 := Sq.gw HB hg; have NB128_148 := Sq.nl BK128 hg; have NB148_128 := Sq.ng BK128 hg; have NB129_148 := Sq.nl BK129 hg; have NB148_129 := Sq.ng BK129 hg; have NB147_148 := Sq.nl BK147 hg; have NB148_147 := Sq.ng BK147 hg; replace BK128 := Sq.bb BK128 hb; replace BK129 := Sq.bb BK129 hb; replace BK147 := Sq.bb BK147 hb; replace HB := Sq.bs HB hb; clear hb hbox hg; have hnb39 := NB147_128.out; have hnc39 := NB128_147.out; have hnb40 := NB147_129.out; have hnc40 := NB129_147.out; have hnb41 := NB147_148.out; have hnc41 := NB148_147.out; have hcz42_0 := Sq.bc BK147 0 (.bool false); have hcz42_1 := Sq.bc BK147 1 (.slice none 0 0); have hfz42_0 := blk_frozen BK147.out 0; have hfz42_1 := blk_frozen BK147.out 1; obtain ⟨Ao43, co43, eo43⟩ := Kd.R_slice HO141.out; subst eo43; have hnb44 := NB148_128.out; have hnc44 := NB128_148.out; have hnb45 := NB148_129.out; have hnc45 := NB129_148.out; have hcz46_0 := Sq.bc BK148 0 (.bool false); have hcz46_1 := Sq.bc BK148 1 (.slice none 0 0); have hfz46_0 := blk_frozen BK148.out 0; have hfz46_1 := blk_frozen BK148.out 1; obtain ⟨Ao47, co47, eo47⟩ := Kd.R_slice HO145.out; subst eo47) | ((with_reducible refine gate_callee (f := 58) rfl ?_); refine Sq.gl (some 24) Try.func58 #[.string (⟨#[45, 48]⟩ : ByteArray)] ?_; (with_reducible refine (integer_Parse.calls (⟨#[45, 48]⟩ : ByteArray) false t150 t153 _ A7.out).mono ?_); rintro e w48 ⟨v151, rfl, ho0, hb⟩; refine ⟨_, rfl, ?_⟩; have HO152 := Aside0.mk (Kd.R_lower (Kd.R_new' (Kd.R_new' (Kd.R_new' (Kd.R_new' (Kd.R_new' (Kd.R_new' (Kd.R_new' (Kd.R_new' ho0 (Kd.R_lt (by (with_reducible repeat (first | apply Kd.R_alloc | apply Kd.R_drewN | apply Kd.R_drew)); exact (Kd.R_mono (Kd.R_mono (Kd.R_far (p := ⟨gb148, 1, none⟩) (Kd.R_far (p := ⟨gb148, 0, none⟩) (Kd.R_far (p := ⟨gb147, 1, none⟩) (Kd.R_far (p := ⟨gb147, 0, none⟩) (Sq.rt (Sq.rt HO114.out BK147) BK148) (fun _ hk => hk.1.2) (.bool t138)) (fun _ hk => hk.1.2) (.slice Ao43 t139.length co43)) (fun _ hk => hk.2) (.bool t142)) (fun _ hk => hk.2) (.slice Ao47 t143.length co47)) (fun _ h_ => h_.1)) (fun _ h_ => h_.1))))) (Kd.R_lt (by (with_reducible repeat (first | apply Kd.R_alloc | apply Kd.R_drewN | apply Kd.R_drew)); exact (Kd.R_mono (Kd.R_mono (Kd.R_far (p := ⟨gb148, 1, none⟩) (Kd.R_far (p := ⟨gb148, 0, none⟩) (Kd.R_far (p := ⟨gb147, 1, none⟩) (Kd.R_far (p := ⟨gb147, 0, none⟩) (Sq.rt (Sq.rt HO118.out BK147) BK148) (fun _ hk => hk.1.2) (.bool t138)) (fun _ hk => hk.1.2) (.slice Ao43 t139.length co43)) (fun _ hk => hk.2) (.bool t142)) (fun _ hk => hk.2) (.slice Ao47 t143.length co47)) (fun _ h_ => h_.1)) (fun _ h_ => h_.1))))) (Kd.R_lt (by (with_reducible repeat (first | apply Kd.R_alloc | apply Kd.R_drewN | apply Kd.R_drew)); exact (Kd.R_mono (Kd.R_mono (Kd.R_far (p := ⟨gb148, 1, none⟩) (Kd.R_far (p := ⟨gb148, 0, none⟩) (Kd.R_far (p := ⟨gb147, 1, none⟩) (Kd.R_far (p := ⟨gb147, 0, none⟩) (Sq.rt (Sq.rt HO122.out BK147) BK148) (fun _ hk => hk.1.2) (.bool t138)) (fun _ hk => hk.1.2) (.slice Ao43 t139.length co43)) (fun _ hk => hk.2) (.bool t142)) (fun _ hk => hk.2) (.slice Ao47 t143.length co47)) (fun _ h_ => h_.1)) (fun _ h_ => h_.1))))) (Kd.R_lt (by (with_reducible repeat (first | apply Kd.R_alloc | apply Kd.R_drewN | apply Kd.R_drew)); exact (Kd.R_mono (Kd.R_mono (Kd.R_far (p := ⟨gb148, 1, none⟩) (Kd.R_far (p := ⟨gb148, 0, none⟩) (Kd.R_far (p := ⟨gb147, 1, none⟩) (Kd.R_far (p := ⟨gb147, 0, none⟩) (Sq.rt (Sq.rt HO126.out BK147) BK148) (fun _ hk => hk.1.2) (.bool t138)) (fun _ hk => hk.1.2) (.slice Ao43 t139.length co43)) (fun _ hk => hk.2) (.bool t142)) (fun _ hk => hk.2) (.slice Ao47 t143.length co47)) (fun _ h_ => h_.1)) (fun _ h_ => h_.1))))) (Kd.R_lt (by (with_reducible repeat (first | apply Kd.R_alloc | apply Kd.R_drewN | apply Kd.R_drew)); exact (Kd.R_mono (Kd.R_mono (Kd.R_far (p := ⟨gb148, 1, none⟩) (Kd.R_far (p := ⟨gb148, 0, none⟩) (Kd.R_far (p := ⟨gb147, 1, none⟩) (Kd.R_far (p := ⟨gb147, 0, none⟩) (Sq.rt (Sq.rt HO133.out BK147) BK148) (fun _ hk => hk.1.2) (.bool t138)) (fun _ hk => hk.1.2) (.slice Ao43 t139.length co43)) (fun _ hk => hk.2) (.bool t142)) (fun _ hk => hk.2) (.slice Ao47 t143.length co47)) (fun _ h_ => h_.1)) (fun _ h_ => h_.1))))) (Kd.R_lt (by (with_reducible repeat (first | apply Kd.R_alloc | apply Kd.R_drewN | apply Kd.R_drew)); exact (Kd.R_mono (Kd.R_mono (Kd.R_far (p := ⟨gb148, 1, none⟩) (Kd.R_far (p := ⟨gb148, 0, none⟩) (Kd.R_far (p := ⟨gb147, 1, none⟩) (Kd.R_far (p := ⟨gb147, 0, none⟩) (Sq.rt (Sq.rt HO137.out BK147) BK148) (fun _ hk => hk.1.2) (.bool t138)) (fun _ hk => hk.1.2) (.slice Ao43 t139.length co43)) (fun _ hk => hk.2) (.bool t142)) (fun _ hk => hk.2) (.slice Ao47 t143.length co47)) (fun _ h_ => h_.1)) (fun _ h_ => h_.1))))) (Kd.R_lt (by (with_reducible repeat (first | apply Kd.R_alloc | apply Kd.R_drewN | apply Kd.R_drew)); exact (Kd.R_mono (Kd.R_mono (Kd.R_far (p := ⟨gb148, 1, none⟩) (Kd.R_far (p := ⟨gb148, 0, none⟩) (Kd.R_far (p := ⟨gb147, 1, none⟩) (Kd.R_far (p := ⟨gb147, 0, none⟩) (Sq.rt (Sq.rt HO141.out BK147) BK148) (fun _ hk => hk.1.2) (.bool t138)) (fun _ hk => hk.1.2) (.slice Ao43 t139.length co43)) (fun _ hk => hk.2) (.bool t142)) (fun _ hk => hk.2) (.slice Ao47 t143.length co47)) (fun _ h_ => h_.1)) (fun _ h_ => h_.1))))) (Kd.R_lt (by (with_reducible repeat (first | apply Kd.R_alloc | apply Kd.R_drewN | apply Kd.R_drew)); exact (Kd.R_mono (Kd.R_mono (Kd.R_far (p := ⟨gb148, 1, none⟩) (Kd.R_far (p := ⟨gb148, 0, none⟩) (Kd.R_far (p := ⟨gb147, 1, none⟩) (Kd.R_far (p := ⟨gb147, 0, none⟩) (Sq.rt (Sq.rt HO145.out BK147) BK148) (fun _ hk => hk.1.2) (.bool t138)) (fun _ hk => hk.1.2) (.slice Ao43 t139.length co43)) (fun _ hk => hk.2) (.bool t142)) (fun _ hk => hk.2) (.slice Ao47 t143.length co47)) (fun _ h_ => h_.1)) (fun _ h_ => h_.1))))) (below_size (Sq.bl HB))); replace BK128 := Aside0.mk (blk_below (g := gb128) (o := .cells #[.bool t119, .slice Ao29 t120.length co29] 39 (0, 0)) (by (with_reducible repeat (first | refine blk_drewN ?_ _ | refine blk_drew ?_ | refine blk_alloc ?_ _)); refine blk_far ?_ NB128_148.out _; (with_reducible repeat (first | refine blk_drewN ?_ _ | refine blk_drew ?_ | refine blk_alloc ?_ _)); refine blk_far ?_ NB128_148.out _; (with_reducible repeat (first | refine blk_drewN ?_ _ | refine blk_drew ?_ | refine blk_alloc ?_ _)); refine blk_far ?_ NB128_147.out _; (with_reducible repeat (first | refine blk_drewN ?_ _ | refine blk_drew ?_ | refine blk_alloc ?_ _)); refine blk_far ?_ NB128_147.out _; (with_reducible repeat (first | refine blk_drewN ?_ _ | refine blk_drew ?_ | refine blk_alloc ?_ _)); exact BK128.out) hb); replace BK129 := Aside0.mk (blk_below (g := gb129) (o := .cells #[.bool t123, .slice Ao31 t124.length co31] 39 (0, 0)) (by (with_reducible repeat (first | refine blk_drewN ?_ _ | refine blk_drew ?_ | refine blk_alloc ?_ _)); refine blk_far ?_ NB129_148.out _; (with_reducible repeat (first | refine blk_drewN ?_ _ | refine blk_drew ?_ | refine blk_alloc ?_ _)); refine blk_far ?_ NB129_148.out _; (with_reducible repeat (first | refine blk_drewN ?_ _ | refine blk_drew ?_ | refine blk_alloc ?_ _)); refine blk_far ?_ NB129_147.out _; (with_reducible repeat (first | refine blk_drewN ?_ _ | refine blk_drew ?_ | refine blk_alloc ?_ _)); refine blk_far ?_ NB129_147.out _; (with_reducible repeat (first | refine blk_drewN ?_ _ | refine blk_drew ?_ | refine blk_alloc ?_ _)); exact BK129.out) hb); replace HO114 := Aside0.mk (Kd.R_elder' (by (with_reducible repeat (first | apply Kd.R_alloc | apply Kd.R_drewN | apply Kd.R_drew)); exact (Kd.R_mono (Kd.R_mono (Kd.R_far (p := ⟨gb148, 1, none⟩) (Kd.R_far (p := ⟨gb148, 0, none⟩) (Kd.R_far (p := ⟨gb147, 1, none⟩) (Kd.R_far (p := ⟨gb147, 0, none⟩) (Sq.rt (Sq.rt HO114.out BK147) BK148) (fun _ hk => hk.1.2) (.bool t138)) (fun _ hk => hk.1.2) (.slice Ao43 t139.length co43)) (fun _ hk => hk.2) (.bool t142)) (fun _ hk => hk.2) (.slice Ao47 t143.length co47)) (fun _ h_ => h_.1)) (fun _ h_ => h_.1))) (Kd.R_base ho0) hb); replace HO118 := Aside0.mk (Kd.R_elder' (by (with_reducible repeat (first | apply Kd.R_alloc | apply Kd.R_drewN | apply Kd.R_drew)); exact (Kd.R_mono (Kd.R_mono (Kd.R_far (p := ⟨gb148, 1, none⟩) (Kd.R_far (p := ⟨gb148, 0, none⟩) (Kd.R_far (p := ⟨gb147, 1, none⟩) (Kd.R_far (p := ⟨gb147, 0, none⟩) (Sq.rt (Sq.rt HO118.out BK147) BK148) (fun _ hk => hk.1.2) (.bool t138)) (fun _ hk => hk.1.2) (.slice Ao43 t139.length co43)) (fun _ hk => hk.2) (.bool t142)) (fun _ hk => hk.2) (.slice Ao47 t143.length co47)) (fun _ h_ => h_.1)) (fun _ h_ => h_.1))) (Kd.R_base ho0) hb); replace HO122 := Aside0.mk (Kd.R_elder' (by (with_reducible repeat (first | apply Kd.R_alloc | apply Kd.R_drewN | apply Kd.R_drew)); exact (Kd.R_mono (Kd.R_mono (Kd.R_far (p := ⟨gb148, 1, none⟩) (Kd.R_far (p := ⟨gb148, 0, none⟩) (Kd.R_far (p := ⟨gb147, 1, none⟩) (Kd.R_far (p := ⟨gb147, 0, none⟩) (Sq.rt (Sq.rt HO122.out BK147) BK148) (fun _ hk => hk.1.2) (.bool t138)) (fun _ hk => hk.1.2) (.slice Ao43 t139.length co43)) (fun _ hk => hk.2) (.bool t142)) (fun _ hk => hk.2) (.slice Ao47 t143.length co47)) (fun _ h_ => h_.1)) (fun _ h_ => h_.1))) (Kd.R_base ho0) hb); replace HO126 := Aside0.mk (Kd.R_elder' (by (with_reducible repeat (first | apply Kd.R_alloc | apply Kd.R_drewN | apply Kd.R_drew)); exact (Kd.R_mono (Kd.R_mono (Kd.R_far (p := ⟨gb148, 1, none⟩) (Kd.R_far (p := ⟨gb148, 0, none⟩) (Kd.R_far (p := ⟨gb147, 1, none⟩) (Kd.R_far (p := ⟨gb147, 0, none⟩) (Sq.rt (Sq.rt HO126.out BK147) BK148) (fun _ hk => hk.1.2) (.bool t138)) (fun _ hk => hk.1.2) (.slice Ao43 t139.length co43)) (fun _ hk => hk.2) (.bool t142)) (fun _ hk => hk.2) (.slice Ao47 t143.length co47)) (fun _ h_ => h_.1)) (fun _ h_ => h_.1))) (Kd.R_base ho0) hb); replace HO133 := Aside0.mk (Kd.R_elder' (by (with_reducible repeat (first | apply Kd.R_alloc | apply Kd.R_drewN | apply Kd.R_drew)); exact (Kd.R_mono (Kd.R_mono (Kd.R_far (p := ⟨gb148, 1, none⟩) (Kd.R_far (p := ⟨gb148, 0, none⟩) (Kd.R_far (p := ⟨gb147, 1, none⟩) (Kd.R_far (p := ⟨gb147, 0, none⟩) (Sq.rt (Sq.rt HO133.out BK147) BK148) (fun _ hk => hk.1.2) (.bool t138)) (fun _ hk => hk.1.2) (.slice Ao43 t139.length co43)) (fun _ hk => hk.2) (.bool t142)) (fun _ hk => hk.2) (.slice Ao47 t143.length co47)) (fun _ h_ => h_.1)) (fun _ h_ => h_.1))) (Kd.R_base ho0) hb); replace HO137 := Aside0.mk (Kd.R_elder' (by (with_reducible repeat (first | apply Kd.R_alloc | apply Kd.R_drewN | apply Kd.R_drew)); exact (Kd.R_mono (Kd.R_mono (Kd.R_far (p := ⟨gb148, 1, none⟩) (Kd.R_far (p := ⟨gb148, 0, none⟩) (Kd.R_far (p := ⟨gb147, 1, none⟩) (Kd.R_far (p := ⟨gb147, 0, none⟩) (Sq.rt (Sq.rt HO137.out BK147) BK148) (fun _ hk => hk.1.2) (.bool t138)) (fun _ hk => hk.1.2) (.slice Ao43 t139.length co43)) (fun _ hk => hk.2) (.bool t142)) (fun _ hk => hk.2) (.slice Ao47 t143.length co47)) (fun _ h_ => h_.1)) (fun _ h_ => h_.1))) (Kd.R_base ho0) hb); replace HO141 := Aside0.mk (Kd.R_elder' (by (with_reducible repeat (first | apply Kd.R_alloc | apply Kd.R_drewN | apply Kd.R_drew)); exact (Kd.R_mono (Kd.R_mono (Kd.R_far (p := ⟨gb148, 1, none⟩) (Kd.R_far (p := ⟨gb148, 0, none⟩) (Kd.R_far (p := ⟨gb147, 1, none⟩) (Kd.R_far (p := ⟨gb147, 0, none⟩) (Sq.rt (Sq.rt HO141.out BK147) BK148) (fun _ hk => hk.1.2) (.bool t138)) (fun _ hk => hk.1.2) (.slice Ao43 t139.length co43)) (fun _ hk => hk.2) (.bool t142)) (fun _ hk => hk.2) (.slice Ao47 t143.length co47)) (fun _ h_ => h_.1)) (fun _ h_ => h_.1))) (Kd.R_base ho0) hb); replace HO145 := Aside0.mk (Kd.R_elder' (by (with_reducible repeat (first | apply Kd.R_alloc | apply Kd.R_drewN | apply Kd.R_drew)); exact (Kd.R_mono (Kd.R_mono (Kd.R_far (p := ⟨gb148, 1, none⟩) (Kd.R_far (p := ⟨gb148, 0, none⟩) (Kd.R_far (p := ⟨gb147, 1, none⟩) (Kd.R_far (p := ⟨gb147, 0, none⟩) (Sq.rt (Sq.rt HO145.out BK147) BK148) (fun _ hk => hk.1.2) (.bool t138)) (fun _ hk => hk.1.2) (.slice Ao43 t139.length co43)) (fun _ hk => hk.2) (.bool t142)) (fun _ hk => hk.2) (.slice Ao47 t143.length co47)) (fun _ h_ => h_.1)) (fun _ h_ => h_.1))) (Kd.R_base ho0) hb); replace HB := Sq.bs HB hb; replace BK147 := Aside0.mk (blk_below (g := gb147) (o := .cells #[.bool t138, .slice Ao43 t139.length co43] 39 (0, 0)) (by (with_reducible repeat (first | refine blk_drewN ?_ _ | refine blk_drew ?_ | refine blk_alloc ?_ _)); refine blk_far ?_ NB147_148.out _; (with_reducible repeat (first | refine blk_drewN ?_ _ | refine blk_drew ?_ | refine blk_alloc ?_ _)); refine blk_far ?_ NB147_148.out _; (with_reducible repeat (first | refine blk_drewN ?_ _ | refine blk_drew ?_ | refine blk_alloc ?_ _)); refine blk_put (cs := #[.bool t138, .slice none 0 0]) ?_ 1 _ rfl; (with_reducible repeat (first | refine blk_drewN ?_ _ | refine blk_drew ?_ | refine blk_alloc ?_ _)); refine blk_put (cs := #[.bool false, .slice none 0 0]) ?_ 0 _ rfl; (with_reducible repeat (first | refine blk_drewN ?_ _ | refine blk_drew ?_ | refine blk_alloc ?_ _)); exact BK147.out) hb); replace BK148 := Aside0.mk (blk_below (g := gb148) (o := .cells #[.bool t142, .slice Ao47 t143.length co47] 39 (0, 0)) (by (with_reducible repeat (first | refine blk_drewN ?_ _ | refine blk_drew ?_ | refine blk_alloc ?_ _)); refine blk_put (cs := #[.bool t142, .slice none 0 0]) ?_ 1 _ rfl; (with_reducible repeat (first | refine blk_drewN ?_ _ | refine blk_drew ?_ | refine blk_alloc ?_ _)); refine blk_put (cs := #[.bool false, .slice none 0 0]) ?_ 0 _ rfl; (with_reducible repeat (first | refine blk_drewN ?_ _ | refine blk_drew ?_ | refine blk_alloc ?_ _)); refine blk_far ?_ NB148_147.out _; (with_reducible repeat (first | refine blk_drewN ?_ _ | refine blk_drew ?_ | refine blk_alloc ?_ _)); refine blk_far ?_ NB148_147.out _; (with_reducible repeat (first | refine blk_drewN ?_ _ | refine blk_drew ?_ | refine blk_alloc ?_ _)); exact BK148.out) hb); (try clear hb); (try clear hb2); (try clear hk); (try clear hi); (try clear ho0)) | ((with_reducible refine gate_dst (N := 7) rfl ?_); (try (refine gate_guard (by rfl) ?_; dsimp only)); refine box_event ?hg (N := 7) ?hd (cs := #[.bool false, .slice none 0 0]) (t := 39) ?hr ?_; (case hd => rfl); (case hg => rfl); (case hr => first | (go_simp; done) | (go_simp; rfl)); intro gb154 hg w49 hbox hb; replace HO114 := Aside0.mk (Kd.R_below (Sq.al HO114) hb); replace HO118 := Aside0.mk (Kd.R_below (Sq.al HO118) hb); replace HO122 := Aside0.mk (Kd.R_below (Sq.al HO122) hb); replace HO126 := Aside0.mk (Kd.R_below (Sq.al HO126) hb); replace HO133 := Aside0.mk (Kd.R_below (Sq.al HO133) hb); replace HO137 := Aside0.mk (Kd.R_below (Sq.al HO137) hb); replace HO141 := Aside0.mk (Kd.R_below (Sq.al HO141) hb); replace HO145 := Aside0.mk (Kd.R_below (Sq.al HO145) hb); replace HO152 := Aside0.mk (Kd.R_below (Sq.al HO152) hb); have BK154 := Aside0.mk (hbox); have GW154 := Sq.gw HB hg; have GE154 := Sq.gw HB hg; have NB128_154 := Sq.nl BK128 hg; have NB154_128 := Sq.ng BK128 hg; have NB129_154 := Sq.nl BK129 hg; have NB154_129 := Sq.ng BK129 hg; have NB147_154 := Sq.nl BK147 hg; have NB154_147 := Sq.ng BK147 hg; have NB148_154 := Sq.nl BK148 hg; have NB154_148 := Sq.ng BK148 hg; replace BK128 := Sq.bb BK128 hb; replace BK129 := Sq.bb BK129 hb; replace BK147 := Sq.bb BK147 hb; replace BK148 := Sq.bb BK148 hb; replace HB := Sq.bs HB hb; clear hb hbox hg; have hnb50 := NB154_128.out; have hnc50 := NB128_154.out; have hnb51 := NB154_129.out; have hnc51 := NB129_154.out; have hnb52 := NB154_147.out; have hnc52 := NB147_154.out; have hnb53 := NB154_148.out; have hnc53 := NB148_154.out; have hcz54_0 := Sq.bc BK154 0 (.bool false); have hcz54_1 := Sq.bc BK154 1 (.slice none 0 0); have hfz54_0 := blk_frozen BK154.out 0; have hfz54_1 := blk_frozen BK154.out 1; obtain ⟨Ao55, co55, eo55⟩ := Kd.R_slice HO152.out; subst eo55; have hcz56_0 := Sq.bc BK128 0 (.bool t119); have hcz56_1 := Sq.bc BK128 1 (.slice Ao29 t120.length co29); have hfz56_0 := blk_frozen BK128.out 0; have hfz56_1 := blk_frozen BK128.out 1) | (go_at_call 60; (with_reducible refine (integer_Print.calls t119 _ _ t120 t155 _ ?side1 ?side2 A11.out).mono ?_); (case side1 => refine (Kd.R_reads' (e := 107) (base := w.heap.size) (ok := fun k_ => (((((((some k_ ≠ (.slice Ao31 t124.length co31 : Value).ownBlock ∧ some k_ ≠ (.slice Ao22 t112.length co22 : Value).ownBlock) ∧ some k_ ≠ (.slice Ao23 t116.length co23 : Value).ownBlock) ∧ some k_ ≠ (.slice Ao34 t131.length co34 : Value).ownBlock) ∧ some k_ ≠ (.slice Ao35 t135.length co35 : Value).ownBlock) ∧ some k_ ≠ (.slice Ao43 t139.length co43 : Value).ownBlock) ∧ some k_ ≠ (.slice Ao47 t143.length co47 : Value).ownBlock) ∧ some k_ ≠ (.slice Ao55 t150.length co55 : Value).ownBlock)) (n := t120.length) (c := co29) ?_).2.2; exact (by (with_reducible repeat (first | apply Kd.R_alloc | apply Kd.R_drewN | apply Kd.R_drew)); exact (Kd.R_mono (Kd.R_far (p := ⟨gb154, 1, none⟩) (Kd.R_far (p := ⟨gb154, 0, none⟩) (Sq.rt HO122.out BK154) (fun _ hk => hk.2) (.bool false)) (fun _ hk => hk.2) (.slice Ao55 t150.length co55)) (fun _ h_ => h_.1)))); (case side2 => exact (Kd.R_reads' HO122.out).2.1); rintro e w57 ⟨rfl, hb⟩; replace HO114 := Aside0.mk (Kd.R_below (by (with_reducible repeat (first | apply Kd.R_alloc | apply Kd.R_drewN | apply Kd.R_drew)); exact (Kd.R_mono (Kd.R_far (p := ⟨gb154, 1, none⟩) (Kd.R_far (p := ⟨gb154, 0, none⟩) (Sq.rt HO114.out BK154) (fun _ hk => hk.2) (.bool false)) (fun _ hk => hk.2) (.slice Ao55 t150.length co55)) (fun _ h_ => h_.1))) hb); replace HO118 := Aside0.mk (Kd.R_below (by (with_reducible repeat (first | apply Kd.R_alloc | apply Kd.R_drewN | apply Kd.R_drew)); exact (Kd.R_mono (Kd.R_far (p := ⟨gb154, 1, none⟩) (Kd.R_far (p := ⟨gb154, 0, none⟩) (Sq.rt HO118.out BK154) (fun _ hk => hk.2) (.bool false)) (fun _ hk => hk.2) (.slice Ao55 t150.length co55)) (fun _ h_ => h_.1))) hb); replace HO122 := Aside0.mk (Kd.R_below (by (with_reducible repeat (first | apply Kd.R_alloc | apply Kd.R_drewN | apply Kd.R_drew)); exact (Kd.R_mono (Kd.R_far (p := ⟨gb154, 1, none⟩) (Kd.R_far (p := ⟨gb154, 0, none⟩) (Sq.rt HO122.out BK154) (fun _ hk => hk.2) (.bool false)) (fun _ hk => hk.2) (.slice Ao55 t150.length co55)) (fun _ h_ => h_.1))) hb); replace HO126 := Aside0.mk (Kd.R_below (by (with_reducible repeat (first | apply Kd.R_alloc | apply Kd.R_drewN | apply Kd.R_drew)); exact (Kd.R_mono (Kd.R_far (p := ⟨gb154, 1, none⟩) (Kd.R_far (p := ⟨gb154, 0, none⟩) (Sq.rt HO126.out BK154) (fun _ hk => hk.2) (.bool false)) (fun _ hk => hk.2) (.slice Ao55 t150.length co55)) (fun _ h_ => h_.1))) hb); replace HO133 := Aside0.mk (Kd.R_below (by (with_reducible repeat (first | apply Kd.R_alloc | apply Kd.R_drewN | apply Kd.R_drew)); exact (Kd.R_mono (Kd.R_far (p := ⟨gb154, 1, none⟩) (Kd.R_far (p := ⟨gb154, 0, none⟩) (Sq.rt HO133.out BK154) (fun _ hk => hk.2) (.bool false)) (fun _ hk => hk.2) (.slice Ao55 t150.length co55)) (fun _ h_ => h_.1))) hb); replace HO137 := Aside0.mk (Kd.R_below (by (with_reducible repeat (first | apply Kd.R_alloc | apply Kd.R_drewN | apply Kd.R_drew)); exact (Kd.R_mono (Kd.R_far (p := ⟨gb154, 1, none⟩) (Kd.R_far (p := ⟨gb154, 0, none⟩) (Sq.rt HO137.out BK154) (fun _ hk => hk.2) (.bool false)) (fun _ hk => hk.2) (.slice Ao55 t150.length co55)) (fun _ h_ => h_.1))) hb); replace HO141 := Aside0.mk (Kd.R_below (by (with_reducible repeat (first | apply Kd.R_alloc | apply Kd.R_drewN | apply Kd.R_drew)); exact (Kd.R_mono (Kd.R_far (p := ⟨gb154, 1, none⟩) (Kd.R_far (p := ⟨gb154, 0, none⟩) (Sq.rt HO141.out BK154) (fun _ hk => hk.2) (.bool false)) (fun _ hk => hk.2) (.slice Ao55 t150.length co55)) (fun _ h_ => h_.1))) hb); replace HO145 := Aside0.mk (Kd.R_below (by (with_reducible repeat (first | apply Kd.R_alloc | apply Kd.R_drewN | apply Kd.R_drew)); exact (Kd.R_mono (Kd.R_far (p := ⟨gb154, 1, none⟩) (Kd.R_far (p := ⟨gb154, 0, none⟩) (Sq.rt HO145.out BK154) (fun _ hk => hk.2) (.bool false)) (fun _ hk => hk.2) (.slice Ao55 t150.length co55)) (fun _ h_ => h_.1))) hb); replace HO152 := Aside0.mk (Kd.R_below (by (with_reducible repeat (first | apply Kd.R_alloc | apply Kd.R_drewN | apply Kd.R_drew)); exact (Kd.R_mono (Kd.R_far (p := ⟨gb154, 1, none⟩) (Kd.R_far (p := ⟨gb154, 0, none⟩) (Sq.rt HO152.out BK154) (fun _ hk => hk.2) (.bool false)) (fun _ hk => hk.2) (.slice Ao55 t150.length co55)) (fun _ h_ => h_.1))) hb); replace BK128 := Aside0.mk (blk_below (g := gb128) (o := .cells #[.bool t119, .slice Ao29 t120.length co29] 39 (0, 0)) (by (with_reducible repeat (first | refine blk_drewN ?_ _ | refine blk_drew ?_ | refine blk_alloc ?_ _)); refine blk_far ?_ NB128_154.out _; (with_reducible repeat (first | refine blk_drewN ?_ _ | refine blk_drew ?_ | refine blk_alloc ?_ _)); refine blk_far ?_ NB128_154.out _; (with_reducible repeat (first | refine blk_drewN ?_ _ | refine blk_drew ?_ | refine blk_alloc ?_ _)); exact BK128.out) hb); replace BK129 := Aside0.mk (blk_below (g := gb129) (o := .cells #[.bool t123, .slice Ao31 t124.length co31] 39 (0, 0)) (by (with_reducible repeat (first | refine blk_drewN ?_ _ | refine blk_drew ?_ | refine blk_alloc ?_ _)); refine blk_far ?_ NB129_154.out _; (with_reducible repeat (first | refine blk_drewN ?_ _ | refine blk_drew ?_ | refine blk_alloc ?_ _)); refine blk_far ?_ NB129_154.out _; (with_reducible repeat (first | refine blk_drewN ?_ _ | refine blk_drew ?_ | refine blk_alloc ?_ _)); exact BK129.out) hb); replace BK147 := Aside0.mk (blk_below (g := gb147) (o := .cells #[.bool t138, .slice Ao43 t139.length co43] 39 (0, 0)) (by (with_reducible repeat (first | refine blk_drewN ?_ _ | refine blk_drew ?_ | refine blk_alloc ?_ _)); refine blk_far ?_ NB147_154.out _; (with_reducible repeat (first | refine blk_drewN ?_ _ | refine blk_drew ?_ | refine blk_alloc ?_ _)); refine blk_far ?_ NB147_154.out _; (with_reducible repeat (first | refine blk_drewN ?_ _ | refine blk_drew ?_ | refine blk_alloc ?_ _)); exact BK147.out) hb); replace BK148 := Aside0.mk (blk_below (g := gb148) (o := .cells #[.bool t142, .slice Ao47 t143.length co47] 39 (0, 0)) (by (with_reducible repeat (first | refine blk_drewN ?_ _ | refine blk_drew ?_ | refine blk_alloc ?_ _)); refine blk_far ?_ NB148_154.out _; (with_reducible repeat (first | refine blk_drewN ?_ _ | refine blk_drew ?_ | refine blk_alloc ?_ _)); refine blk_far ?_ NB148_154.out _; (with_reducible repeat (first | refine blk_drewN ?_ _ | refine blk_drew ?_ | refine blk_alloc ?_ _)); exact BK148.out) hb); replace HB := Sq.bs HB hb; replace BK154 := Aside0.mk (blk_below (g := gb154) (o := .cells #[.bool false, .slice Ao55 t150.length co55] 39 (0, 0)) (by (with_reducible repeat (first | refine blk_drewN ?_ _ | refine blk_drew ?_ | refine blk_alloc ?_ _)); refine blk_put (cs := #[.bool false, .slice none 0 0]) ?_ 1 _ rfl; (with_reducible repeat (first | refine blk_drewN ?_ _ | refine blk_drew ?_ | refine blk_alloc ?_ _)); refine blk_put (cs := #[.bool false, .slice none 0 0]) ?_ 0 _ rfl; (with_reducible repeat (first | refine blk_drewN ?_ _ | refine blk_drew ?_ | refine blk_alloc ?_ _)); exact BK154.out) hb); (try clear hb); (try clear hb2); (try clear hk); (try clear hi); have hcz58_0 := Sq.bc BK129 0 (.bool t123); have hcz58_1 := Sq.bc BK129 1 (.slice Ao31 t124.length co31); have hfz58_0 := blk_frozen BK129.out 0; have hfz58_1 := blk_frozen BK129.out 1) | (go_at_call 60; (with_reducible refine (integer_Print.calls t123 _ _ t124 t156 _ ?side1 ?side2 A13.out).mono ?_); (case side1 => exact Sq.ca (Kd.R_reads' HO126.out).2.2); (case side2 => exact (Kd.R_reads' HO126.out).2.1); rintro e w59 ⟨rfl, hb⟩; replace HO114 := Aside0.mk (Kd.R_below (Sq.al HO114) hb); replace HO118 := Aside0.mk (Kd.R_below (Sq.al HO118) hb); replace HO122 := Aside0.mk (Kd.R_below (Sq.al HO122) hb); replace HO126 := Aside0.mk (Kd.R_below (Sq.al HO126) hb); replace HO133 := Aside0.mk (Kd.R_below (Sq.al HO133) hb); replace HO137 := Aside0.mk (Kd.R_below (Sq.al HO137) hb); replace HO141 := Aside0.mk (Kd.R_below (Sq.al HO141) hb); replace HO145 := Aside0.mk (Kd.R_below (Sq.al HO145) hb); replace HO152 := Aside0.mk (Kd.R_below (Sq.al HO152) hb); replace BK128 := Sq.bb BK128 hb; replace BK129 := Sq.bb BK129 hb; replace BK147 := Sq.bb BK147 hb; replace BK148 := Sq.bb BK148 hb; replace BK154 := Sq.bb BK154 hb; replace HB := Sq.bs HB hb; (try clear hb); (try clear hb2); (try clear hk); (try clear hi); have hcz60_0 := Sq.bc BK147 0 (.bool t138); have hcz60_1 := Sq.bc BK147 1 (.slice Ao43 t139.length co43); have hfz60_0 := blk_frozen BK147.out 0; have hfz60_1 := blk_frozen BK147.out 1) | (go_at_call 60; (with_reducible refine (integer_Print.calls t138 _ _ t139 t157 _ ?side1 ?side2 A15.out).mono ?_); (case side1 => exact Sq.ca (Kd.R_reads' HO141.out).2.2); (case side2 => exact (Kd.R_reads' HO141.out).2.1); rintro e w61 ⟨rfl, hb⟩; replace HO114 := Aside0.mk (Kd.R_below (Sq.al HO114) hb); replace HO118 := Aside0.mk (Kd.R_below (Sq.al HO118) hb); replace HO122 := Aside0.mk (Kd.R_below (Sq.al HO122) hb); replace HO126 := Aside0.mk (Kd.R_below (Sq.al HO126) hb); replace HO133 := Aside0.mk (Kd.R_below (Sq.al HO133) hb); replace HO137 := Aside0.mk (Kd.R_below (Sq.al HO137) hb); replace HO141 := Aside0.mk (Kd.R_below (Sq.al HO141) hb); replace HO145 := Aside0.mk (Kd.R_below (Sq.al HO145) hb); replace HO152 := Aside0.mk (Kd.R_below (Sq.al HO152) hb); replace BK128 := Sq.bb BK128 hb; replace BK129 := Sq.bb BK129 hb; replace BK147 := Sq.bb BK147 hb; replace BK148 := Sq.bb BK148 hb; replace BK154 := Sq.bb BK154 hb; replace HB := Sq.bs HB hb; (try clear hb); (try clear hb2); (try clear hk); (try clear hi); have hcz62_0 := Sq.bc BK148 0 (.bool t142); have hcz62_1 := Sq.bc BK148 1 (.slice Ao47 t143.length co47); have hfz62_0 := blk_frozen BK148.out 0; have hfz62_1 := blk_frozen BK148.out 1) | (go_at_call 60; (with_reducible refine (integer_Print.calls t142 _ _ t143 t158 _ ?side1 ?side2 A17.out).mono ?_); (case side1 => exact Sq.ca (Kd.R_reads' HO145.out).2.2); (case side2 => exact (Kd.R_reads' HO145.out).2.1); rintro e w63 ⟨rfl, hb⟩; replace HO114 := Aside0.mk (Kd.R_below (Sq.al HO114) hb); replace HO118 := Aside0.mk (Kd.R_below (Sq.al HO118) hb); replace HO122 := Aside0.mk (Kd.R_below (Sq.al HO122) hb); replace HO126 := Aside0.mk (Kd.R_below (Sq.al HO126) hb); replace HO133 := Aside0.mk (Kd.R_below (Sq.al HO133) hb); replace HO137 := Aside0.mk (Kd.R_below (Sq.al HO137) hb); replace HO141 := Aside0.mk (Kd.R_below (Sq.al HO141) hb); replace HO145 := Aside0.mk (Kd.R_below (Sq.al HO145) hb); replace HO152 := Aside0.mk (Kd.R_below (Sq.al HO152) hb); replace BK128 := Sq.bb BK128 hb; replace BK129 := Sq.bb BK129 hb; replace BK147 := Sq.bb BK147 hb; replace BK148 := Sq.bb BK148 hb; replace BK154 := Sq.bb BK154 hb; replace HB := Sq.bs HB hb; (try clear hb); (try clear hb2); (try clear hk); (try clear hi); have hcz64_0 := Sq.bc BK154 0 (.bool false); have hcz64_1 := Sq.bc BK154 1 (.slice Ao55 t150.length co55); have hfz64_0 := blk_frozen BK154.out 0; have hfz64_1 := blk_frozen BK154.out 1))
  go_ret
  exact ⟨by first | rfl | (simp [errW_none, errW_some] <;> rfl) | (simp [*, errW_none, errW_some] <;> rfl), Sq.bl HB⟩
def integer_Norm.f (a0_0 : Bool) (l0_1 : List Int) : Option (Bool × List Int) := if Zi.few 50000 l0_1 then some (Zi.ofZ (Zi.zval a0_0 l0_1)) else none
theorem integer_Norm.calls (a0_0 : Bool) (A0_1 : Option Addr) (c0_1 : Nat) (l0_1 : List Int) (r1 : Bool) (r2 : List Int) (w : World) (hr0_1 : Kd.C (Kd.int .u32) w A0_1 l0_1.length l0_1) (hc0_1 : l0_1.length ≤ c0_1) (h : integer_Norm.f a0_0 l0_1 = some (r1, r2)) :
  Calls Try.prog 62 #[.agg #[.bool a0_0, .slice A0_1 l0_1.length c0_1]] w fun e w' => ∃ v1_ : Value, e = .returned (.agg #[.bool r1, v1_]) ∧ Kd.R (Kd.int .u32) 107 w' w.heap.size (fun _ => True) v1_ r2 ∧ Below w.heap.size w w' := by
 unfold integer_Norm.f at h
 split at h
 ·rename_i hf
  exact I.integer_Norm.calls a0_0 A0_1 c0_1 l0_1 r1 r2 w hr0_1 hc0_1 ((Zi.norm_at (hf.fits (by omega))).trans h)
 ·cases h
def integer_Add.f (a0_0 : Bool) (l0_1 : List Int) (a1_0 : Bool) (l1_1 : List Int) : Option (Bool × List Int) := if Zi.few 50000 l0_1 ∧ Zi.few 50000 l1_1 then some (Zi.ofZ (Zi.zval a0_0 l0_1 + Zi.zval a1_0 l1_1)) else none
theorem integer_Add.calls (a0_0 : Bool) (A0_1 : Option Addr) (c0_1 : Nat) (l0_1 : List Int) (a1_0 : Bool) (A1_1 : Option Addr) (c1_1 : Nat) (l1_1 : List Int) (r1 : Bool) (r2 : List Int) (w : World) (hr0_1 : Kd.C (Kd.int .u32) w A0_1 l0_1.length l0_1) (hc0_1 : l0_1.length ≤ c0_1) (hr1_1 : Kd.C (Kd.int .u32) w A1_1 l1_1.length l1_1) (hc1_1 : l1_1.length ≤ c1_1) (h : integer_Add.f a0_0 l0_1 a1_0 l1_1 = some (r1, r2)) :
  Calls Try.prog 63 #[.agg #[.bool a0_0, .slice A0_1 l0_1.length c0_1], .agg #[.bool a1_0, .slice A1_1 l1_1.length c1_1]] w fun e w' => ∃ v1_ : Value, e = .returned (.agg #[.bool r1, v1_]) ∧ Kd.R (Kd.int .u32) 107 w' w.heap.size (fun _ => True) v1_ r2 ∧ Below w.heap.size w w' := by
 unfold integer_Add.f at h
 split at h
 ·rename_i hf
  exact I.integer_Add.calls a0_0 A0_1 c0_1 l0_1 a1_0 A1_1 c1_1 l1_1 r1 r2 w hr0_1 hc0_1 hr1_1 hc1_1 ((Zi.add_at (hf.1.fits (by omega)) (hf.2.fits (by omega)) (by have := hf.1.2; have := hf.2.2; omega)).trans h)
 ·cases h
def integer_Mul.f (a0_0 : Bool) (l0_1 : List Int) (a1_0 : Bool) (l1_1 : List Int) : Option (Bool × List Int) := if Zi.few 50000 l0_1 ∧ Zi.few 50000 l1_1 then some (Zi.ofZ (Zi.zval a0_0 l0_1 * Zi.zval a1_0 l1_1)) else none
theorem integer_Mul.calls (a0_0 : Bool) (A0_1 : Option Addr) (c0_1 : Nat) (l0_1 : List Int) (a1_0 : Bool) (A1_1 : Option Addr) (c1_1 : Nat) (l1_1 : List Int) (r1 : Bool) (r2 : List Int) (w : World) (hr0_1 : Kd.C (Kd.int .u32) w A0_1 l0_1.length l0_1) (hc0_1 : l0_1.length ≤ c0_1) (hr1_1 : Kd.C (Kd.int .u32) w A1_1 l1_1.length l1_1) (hc1_1 : l1_1.length ≤ c1_1) (h : integer_Mul.f a0_0 l0_1 a1_0 l1_1 = some (r1, r2)) :
  Calls Try.prog 64 #[.agg #[.bool a0_0, .slice A0_1 l0_1.length c0_1], .agg #[.bool a1_0, .slice A1_1 l1_1.length c1_1]] w fun e w' => ∃ v1_ : Value, e = .returned (.agg #[.bool r1, v1_]) ∧ Kd.R (Kd.int .u32) 107 w' w.heap.size (fun _ => True) v1_ r2 ∧ Below w.heap.size w w' := by
 unfold integer_Mul.f at h
 split at h
 ·rename_i hf
  exact I.integer_Mul.calls a0_0 A0_1 c0_1 l0_1 a1_0 A1_1 c1_1 l1_1 r1 r2 w hr0_1 hc0_1 hr1_1 hc1_1 ((Zi.mul_at (hf.1.fits (by omega)) (hf.2.fits (by omega)) (by have := hf.1.2; have := hf.2.2; omega)).trans h)
 ·cases h
def integer_Sign.f (a0_0 : Bool) (l0_1 : List Int) : Option (Int) := if Zi.few 50000 l0_1 then some (Zi.sgn (Zi.zval a0_0 l0_1)) else none
theorem integer_Sign.calls (a0_0 : Bool) (A0_1 : Option Addr) (c0_1 : Nat) (l0_1 : List Int) (r : Int) (w : World) (hr0_1 : Kd.C (Kd.int .u32) w A0_1 l0_1.length l0_1) (hc0_1 : l0_1.length ≤ c0_1) (h : integer_Sign.f a0_0 l0_1 = some r) :
  Calls Try.prog 66 #[.agg #[.bool a0_0, .slice A0_1 l0_1.length c0_1]] w fun e w' => e = .returned (.int .i64 r) ∧ Below w.heap.size w w' := by
 unfold integer_Sign.f at h
 split at h
 ·rename_i hf
  exact I.integer_Sign.calls a0_0 A0_1 c0_1 l0_1 r w hr0_1 hc0_1 ((Zi.sign_at (hf.fits (by omega))).trans h)
 ·cases h
def integer_Cmp.f (a0_0 : Bool) (l0_1 : List Int) (a1_0 : Bool) (l1_1 : List Int) : Option (Int) := if Zi.few 50000 l0_1 ∧ Zi.few 50000 l1_1 then some (Zi.cmpZ (Zi.zval a0_0 l0_1) (Zi.zval a1_0 l1_1)) else none
theorem integer_Cmp.calls (a0_0 : Bool) (A0_1 : Option Addr) (c0_1 : Nat) (l0_1 : List Int) (a1_0 : Bool) (A1_1 : Option Addr) (c1_1 : Nat) (l1_1 : List Int) (r : Int) (w : World) (hr0_1 : Kd.C (Kd.int .u32) w A0_1 l0_1.length l0_1) (hc0_1 : l0_1.length ≤ c0_1) (hr1_1 : Kd.C (Kd.int .u32) w A1_1 l1_1.length l1_1) (hc1_1 : l1_1.length ≤ c1_1) (h : integer_Cmp.f a0_0 l0_1 a1_0 l1_1 = some r) :
  Calls Try.prog 72 #[.agg #[.bool a0_0, .slice A0_1 l0_1.length c0_1], .agg #[.bool a1_0, .slice A1_1 l1_1.length c1_1]] w fun e w' => e = .returned (.int .i64 r) ∧ Below w.heap.size w w' := by
 unfold integer_Cmp.f at h
 split at h
 ·rename_i hf
  obtain ⟨K, hK⟩ := (⟨1, Zi.cmp_at 0 (hf.1.fits (by omega)) (hf.2.fits (by omega)) (by have := hf.1.2; have := hf.2.2; omega)⟩ : ∃ K, I.integer_Cmp.f K a0_0 l0_1 a1_0 l1_1 = some (Zi.cmpZ (Zi.zval a0_0 l0_1) (Zi.zval a1_0 l1_1)))
  exact I.integer_Cmp.calls K a0_0 A0_1 c0_1 l0_1 a1_0 A1_1 c1_1 l1_1 r w hr0_1 hc0_1 hr1_1 hc1_1 (hK.trans h)
 ·cases h
end Go.Proofs.Ytaclkccgjpjdjaa.BR
