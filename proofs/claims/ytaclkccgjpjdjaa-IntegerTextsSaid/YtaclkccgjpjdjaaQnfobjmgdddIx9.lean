import Derived.Test.YtaclkccgjpjdjaaQokfecgahapIx0
import Derived.Test.YtaclkccgjpjdjaaQbglcfnogcoIx1
import Derived.Test.YtaclkccgjpjdjaaQhpdaihhcolIx2
import Derived.Test.YtaclkccgjpjdjaaQidhmlaocffIx3
import Derived.Test.YtaclkccgjpjdjaaQgegcdpflffM
namespace Go.Proofs.Ytaclkccgjpjdjaa.I
open Go.RowKit Go.Proofs.YtaclkccgjpjdjaaW.PrintWords Go.Proofs.YtaclkccgjpjdjaaW.PrintLast Go.Proofs.YtaclkccgjpjdjaaW.PrintMore
attribute [local go_sem] max2_int min2_int max_two min_two max_three min_three max_four min_four   -- for this text's walks alone
set_option linter.unusedVariables false
set_option linter.unusedSimpArgs false
def foliotref01_Parse.f (a0 : ByteArray) : Option (List Int × Int) := if a0.size ≤ 140737488351232 then some (Nt.parsed a0) else none
theorem foliotref01_Parse.calls (a0 : ByteArray) (r1 : List Int) (r2 : Int) (w : World) (h : foliotref01_Parse.f a0 = some (r1, r2)) :
  Calls Try.prog 38 #[.string a0] w fun e w' => ∃ v0_ : Value, e = .returned (.tuple #[v0_, .int .i64 r2]) ∧ Kd.R (Kd.int .u32) 107 w' w.heap.size (fun _ => True) v0_ r1 ∧ Below w.heap.size w w' := by
 unfold foliotref01_Parse.f at h
 split at h
 ·rename_i hf
  injection h with h
  obtain ⟨K, hK⟩ := Nb.rparse_ev hf
  exact N.foliotref01_Parse.calls K a0 r1 r2 w ((hK K (Nat.le_refl _)).trans (congrArg some h))
 ·cases h
mutual
def foliotref02_Parse.j0 : Nat → ByteArray → Bool → Option (Bool × List Int × Int)
 | 0, _, _ => none
 | k + 1, x0, x4 => if x4 = true then (if 1 ≤ (x0.size : Int) then (foliotref02_Parse.j1 k (x0.extract 1 x0.size) x4) else (none)) else (foliotref02_Parse.j1 k x0 x4)
def foliotref02_Parse.j1 : Nat → ByteArray → Bool → Option (Bool × List Int × Int)
 | 0, _, _ => none
 | k + 1, x0, x4 => (foliotref01_Parse.f x0).bind fun bt526 => (if bt526.2 = 0 then ((foliotref02_Norm.f x4 bt526.1).bind fun bt530 => (some (bt530.1, bt530.2, 0))) else (some (false, ([] : List Int), bt526.2)))
end
def foliotref02_Parse.f (k : Nat) (a0 : ByteArray) : Option (Bool × List Int × Int) := if (a0.size : Int) > 0 then (if 0 < (a0.size : Int) then (foliotref02_Parse.j0 k a0 ((bt a0 0) == 45)) else (none)) else (foliotref02_Parse.j0 k a0 false)
set_option maxHeartbeats 8000000 in
set_option maxRecDepth 100000 in
theorem foliotref02_Parse.calls (k : Nat) (a0 : ByteArray) (r1 : Bool) (r2 : List Int) (r3 : Int) (w : World) (h : foliotref02_Parse.f k a0 = some (r1, r2, r3)) :
  Calls Try.prog 59 #[.string a0] w fun e w' => ∃ v1_ : Value, e = .returned (.tuple #[.agg #[.bool r1, v1_], .int .i64 r3]) ∧ Kd.R (Kd.int .u32) 107 w' w.heap.size (fun _ => True) v1_ r2 ∧ Below w.heap.size w w' := by
 have hu39 := Try.underlying39
 have HB := Aside0.mk (Below.refl w.heap.size w)
 have H : (if (a0.size : Int) > 0 then (if 0 < (a0.size : Int) then (foliotref02_Parse.j0 k a0 ((bt a0 0) == 45)) else (none)) else (foliotref02_Parse.j0 k a0 false)) = some (r1, r2, r3) := h
 clear h
 have HC2 := Aside0.mk H
 clear H
 go_enter Try.func59, Try.ntmps59
 go_upto_region 1 with (first | ((with_reducible refine gate_dst (N := 2) rfl ?_); refine box_event ?hg (N := 2) ?hd (cs := #[.bool false, .slice none 0 0]) (t := 39) ?hr ?_; (case hd => rfl); (case hg => rfl); (case hr => first | (go_simp; done) | (go_simp; rfl)); intro gb525 hg w3 hbox hb; have BK525 := Aside0.mk (hbox); have GW525 := Sq.gw HB hg; have GE525 := Sq.gw HB hg; replace HB := Sq.bs HB hb; clear hb hbox hg))
 (try simp only [Act.put, List.setIfInBounds_toArray, List.set_cons_zero, List.set_cons_succ])
 go_cut [4] (fun v4 wc => ∃ (kq : Nat) (x4_1 : Bool), v4 = .bool x4_1 ∧ Aside0 (foliotref02_Parse.j0 kq a0 x4_1 = some (r1, r2, r3)) ∧ Aside0 (kq ≤ k) ∧ Aside0 (wc.heap[gb525]? = some (.cells #[.bool false, (.slice none 0 0)] 39 (0, 0))) ∧ Aside0 (Below w.heap.size w wc))
 case first =>
  have H := HC2.out
  clear HC2
  by_cases c4 : (a0.size : Int) > 0
  ·rw [if_pos c4] at H
   have c4b0 : decide (0 < (a0.size : Int)) = true := decide_eq_true c4
   have c4b1 : decide (0 < a0.size) = true := decide_eq_true (by omega)
   clear c4
   (first | rw [c4b0] | (simp only [i64_w, i32_w]; rw [c4b0]) | skip)
   replace H := Sq.ifs H
   obtain ⟨c5, H⟩ := H
   have c5b0 : decide (0 < (a0.size : Int)) = true := decide_eq_true c5
   have c5b1 : decide (0 < a0.size) = true := decide_eq_true (by omega)
   clear c5
   have H' := Aside0.mk H
   clear H
   have p6 : 0 ≤ (0 : Int) := (by omega)
   have q6 : 0 < a0.size := (by have : (0 : Int) < (a0.size : Int) := of_decide_eq_true (by first | (with_reducible assumption) | assumption); omega)
   have hx6 : ∀ h : 0 < a0.size, ((a0[0]'h).toNat : Int) = bt a0 0 := bt_at a0 0
   clear p6
   have qi6 : (0 < (a0.size : Int)) = True := eq_true (of_decide_eq_true (by first | (with_reducible assumption) | assumption))
   replace q6 := eq_true q6
   go_wp2
   go_meet
   case rel => exact ⟨_, (((bt a0 0) == 45)), (by first | rfl | (simp; done) | (simp [*]; done)), H', ⟨by first | omega | exact Nat.le_refl _⟩, ⟨by (with_reducible repeat (first | refine blk_drewN ?_ _ | refine blk_drew ?_ | refine blk_alloc ?_ _)); exact BK525.out⟩, ⟨Sq.bl HB⟩⟩
  ·rw [if_neg c4] at H
   have c4b0 : decide (0 < (a0.size : Int)) = false := decide_eq_false c4
   have c4b1 : decide (0 < a0.size) = false := decide_eq_false (by omega)
   clear c4
   (first | rw [c4b0] | (simp only [i64_w, i32_w]; rw [c4b0]) | skip)
   have H' := Aside0.mk H
   clear H
   go_wp2
   go_meet
   case rel => exact ⟨_, (false), (by first | rfl | (simp; done) | (simp [*]; done)), H', ⟨by first | omega | exact Nat.le_refl _⟩, ⟨by (with_reducible repeat (first | refine blk_drewN ?_ _ | refine blk_drew ?_ | refine blk_alloc ?_ _)); exact BK525.out⟩, ⟨Sq.bl HB⟩⟩
 case rest =>
  clear HC2
  try clear p2
  try clear c4
  try clear c4b0
  try clear c4b1
  try clear c5
  try clear c5b0
  try clear c5b1
  try clear p6
  try clear q6
  try clear hx6
  try clear qi6
  try clear p6
  try clear q6
  obtain ⟨kq, x4_1, rfl, HA, HJ1, BK525, HB⟩ := hcut
  cases kq with
  | zero => exact absurd HA.out (by simp [foliotref02_Parse.j0])
  | succ kj1 =>
   have H := HA.out
   clear HA
   simp only [foliotref02_Parse.j0] at H
   have HC7 := Aside0.mk H
   clear H
   go_upto_if 15 with (fail)
   go_cut [0] (fun v0 wc => ∃ (kq : Nat) (x0_6 : ByteArray), v0 = .string x0_6 ∧ Aside0 (foliotref02_Parse.j1 kq x0_6 x4_1 = some (r1, r2, r3)) ∧ Aside0 (kq ≤ kj1) ∧ Aside0 (wc.heap[gb525]? = some (.cells #[.bool false, (.slice none 0 0)] 39 (0, 0))) ∧ Aside0 (Below w.heap.size w wc))
   case first =>
    have H := HC7.out
    clear HC7
    by_cases c8 : x4_1 = true
    ·subst c8
     have H1 : (if 1 ≤ (a0.size : Int) then (foliotref02_Parse.j1 kj1 (a0.extract 1 a0.size) true) else (none)) = some (r1, r2, r3) := by rw [if_pos rfl] at H; exact H
     clear H
     have H := H1
     clear H1
     replace H := Sq.ifs H
     obtain ⟨c9, H⟩ := H
     have c9b0 := eq_true c9
     have c9b1 : decide (1 ≤ (a0.size : Int)) = true := decide_eq_true c9
     clear c9
     have H' := Aside0.mk H
     clear H
     go_wp2
     go_meet
     case rel => exact ⟨_, (a0.extract 1 a0.size), (by first | rfl | (simp; done) | (simp [*]; done)), H', ⟨by have := HJ1.out; first | omega | exact Nat.le_refl _⟩, ⟨by (with_reducible repeat (first | refine blk_drewN ?_ _ | refine blk_drew ?_ | refine blk_alloc ?_ _)); exact BK525.out⟩, ⟨Sq.bl HB⟩⟩
    ·replace c8 := Bool.eq_false_iff.mpr c8
     subst c8
     have H1 : (foliotref02_Parse.j1 kj1 a0 false) = some (r1, r2, r3) := by rw [if_neg (show ¬ (false = true) by decide)] at H; exact H
     clear H
     have H := H1
     clear H1
     have H' := Aside0.mk H
     clear H
     go_wp2
     go_meet
     case rel => exact ⟨_, (a0), (by first | rfl | (simp; done) | (simp [*]; done)), H', ⟨by have := HJ1.out; first | omega | exact Nat.le_refl _⟩, ⟨by (with_reducible repeat (first | refine blk_drewN ?_ _ | refine blk_drew ?_ | refine blk_alloc ?_ _)); exact BK525.out⟩, ⟨Sq.bl HB⟩⟩
   case rest =>
    clear HC7
    try clear p2
    try clear c4
    try clear c4b0
    try clear c4b1
    try clear c5
    try clear c5b0
    try clear c5b1
    try clear p6
    try clear q6
    try clear hx6
    try clear qi6
    try clear c8
    try clear c9
    try clear c9b0
    try clear c9b1
    try clear p2
    try clear p6
    try clear q6
    obtain ⟨kq, x0_6, rfl, HA, HJ6, BK525, HB⟩ := hcut
    cases kq with
    | zero => exact absurd HA.out (by simp [foliotref02_Parse.j1])
    | succ kj6 =>
     have H := HA.out
     clear HA
     simp only [foliotref02_Parse.j1] at H
     replace H := Sq.bd H
     obtain ⟨⟨t526, t527⟩, A10, H⟩ := H
     (try dsimp -simprocs only at H)
     by_cases c11 : t527 = 0
     ·rw [if_pos c11] at H
      have c11b0 : (t527 == 0) = true := beq_iff_eq.mpr c11
      have c11b1 : (t527 != 0) = false := bne_eq_false_iff_eq.mpr c11
      clear c11
      replace H := Sq.bd H
      obtain ⟨⟨t530, t531⟩, A12, H⟩ := H
      (try dsimp -simprocs only at H)
      simp only [Option.some.injEq, Prod.mk.injEq] at H
      obtain ⟨rfl, rfl, rfl⟩ := H
      go_wp2_with (first | ((with_reducible refine gate_callee (f := 38) rfl ?_); refine Sq.gl (some 20) Try.func38 #[.string x0_6] ?_; (with_reducible refine (foliotref01_Parse.calls x0_6 t526 t527 _ A10.out).mono ?_); rintro e w13 ⟨v528, rfl, ho0, hb⟩; refine ⟨_, rfl, ?_⟩; have HO529 := Aside0.mk (Kd.R_lower ho0 (below_size (Sq.bl HB))); replace BK525 := Sq.bb BK525 hb; replace HB := Sq.bs HB hb; (try clear hb); (try clear hb2); (try clear hk); (try clear hi); (try clear ho0); obtain ⟨Ao14, co14, eo14⟩ := Kd.R_slice HO529.out; subst eo14) | ((with_reducible refine gate_callee (f := 73) rfl ?_); refine Sq.gl (some 30) Try.func73 #[.agg #[.bool x4_1, .slice Ao14 t526.length co14]] ?_; (with_reducible refine (foliotref02_Norm.calls x4_1 _ _ t526 t530 t531 _ ?side1 ?side2 A12.out).mono ?_); (case side1 => exact Sq.ca (Kd.R_reads' HO529.out).2.2); (case side2 => exact (Kd.R_reads' HO529.out).2.1); rintro e w15 ⟨v532, rfl, ho0, hb⟩; refine ⟨_, rfl, ?_⟩; have HO533 := Aside0.mk (Kd.R_lower (Kd.R_new' ho0 (Kd.R_lt (Sq.al HO529))) (below_size (Sq.bl HB))); replace BK525 := Sq.bb BK525 hb; replace HO529 := Aside0.mk (Kd.R_elder' (Sq.al HO529) (Kd.R_base ho0) hb); replace HB := Sq.bs HB hb; (try clear hb); (try clear hb2); (try clear hk); (try clear hi); (try clear ho0); have hcz16_0 := Sq.bc BK525 0 (.bool false); have hcz16_1 := Sq.bc BK525 1 (.slice none 0 0); have hfz16_0 := blk_frozen BK525.out 0; have hfz16_1 := blk_frozen BK525.out 1; obtain ⟨Ao17, co17, eo17⟩ := Kd.R_slice HO533.out; subst eo17))
      refine bodyPost_ret (results_ct rfl _ _ gb525 39 #[.bool t530, .slice Ao17 t531.length co17] (0, 0) _ rfl (by (with_reducible repeat (first | refine blk_drewN ?_ _ | refine blk_drew ?_ | refine blk_alloc ?_ _)); refine blk_put (cs := #[.bool t530, .slice none 0 0]) ?_ 1 _ rfl; (with_reducible repeat (first | refine blk_drewN ?_ _ | refine blk_drew ?_ | refine blk_alloc ?_ _)); refine blk_put (cs := #[.bool false, .slice none 0 0]) ?_ 0 _ rfl; (with_reducible repeat (first | refine blk_drewN ?_ _ | refine blk_drew ?_ | refine blk_alloc ?_ _)); exact BK525.out) Try.underlying39 rfl (by kernel_rfl)) rfl ?_
      exact ⟨_, by first | rfl | (simp [errW_none, errW_some] <;> rfl) | (simp [*, errW_none, errW_some] <;> rfl), by (with_reducible repeat (first | apply Kd.R_alloc | apply Kd.R_drewN | apply Kd.R_drew)); exact Kd.R_mono (Kd.R_far (p := ⟨gb525, 1, none⟩) (Kd.R_far (p := ⟨gb525, 0, none⟩) (Sq.rt HO533.out BK525) (fun _ hk => hk.2) (.bool t530)) (fun _ hk => hk.2) (.slice Ao17 t531.length co17)) (fun _ hk => trivial), Sq.bl HB⟩
     ·rw [if_neg c11] at H
      have c11b0 : (t527 == 0) = false := beq_eq_false_iff_ne.mpr c11
      have c11b1 : (t527 != 0) = true := bne_iff_ne.mpr c11
      simp only [Option.some.injEq, Prod.mk.injEq] at H
      obtain ⟨rfl, rfl, rfl⟩ := H
      go_wp2_with (first | ((with_reducible refine gate_callee (f := 38) rfl ?_); refine Sq.gl (some 20) Try.func38 #[.string x0_6] ?_; (with_reducible refine (foliotref01_Parse.calls x0_6 t526 t527 _ A10.out).mono ?_); rintro e w18 ⟨v528, rfl, ho0, hb⟩; refine ⟨_, rfl, ?_⟩; have HO529 := Aside0.mk (Kd.R_lower ho0 (below_size (Sq.bl HB))); replace BK525 := Sq.bb BK525 hb; replace HB := Sq.bs HB hb; (try clear hb); (try clear hb2); (try clear hk); (try clear hi); (try clear ho0); have hcz19_0 := Sq.bc BK525 0 (.bool false); have hcz19_1 := Sq.bc BK525 1 (.slice none 0 0); have hfz19_0 := blk_frozen BK525.out 0; have hfz19_1 := blk_frozen BK525.out 1))
      refine bodyPost_ret (results_ct rfl _ _ gb525 39 #[.bool false, .slice none 0 0] (0, 0) _ rfl (by (with_reducible repeat (first | refine blk_drewN ?_ _ | refine blk_drew ?_ | refine blk_alloc ?_ _)); refine blk_put (cs := #[.bool false, .slice none 0 0]) ?_ 1 _ rfl; (with_reducible repeat (first | refine blk_drewN ?_ _ | refine blk_drew ?_ | refine blk_alloc ?_ _)); refine blk_put (cs := #[.bool false, .slice none 0 0]) ?_ 0 _ rfl; (with_reducible repeat (first | refine blk_drewN ?_ _ | refine blk_drew ?_ | refine blk_alloc ?_ _)); exact BK525.out) Try.underlying39 rfl (by kernel_rfl)) rfl ?_
      exact ⟨_, by first | rfl | (simp [errW_none, errW_some] <;> rfl) | (simp [*, errW_none, errW_some] <;> rfl), by first | exact Kd.R_nil _ _ _ _ _ | exact Kd.N_nil _ _ _ _ _ | exact Kd.V_nil _ _ _ _ _ | exact Kd.Q_nil _ _ _ _ _ | exact Kd.S_nil _ _ _ _ _, Sq.bl HB⟩
def foliotref01_Print.f (l0 : List Int) : Option (ByteArray) := if Nb.rfits l0 then some (Nt.text (Nt.val l0)) else none
theorem foliotref01_Print.calls (A0 : Option Addr) (c0 : Nat) (l0 : List Int) (r : ByteArray) (w : World) (hr0 : Kd.C (Kd.int .u32) w A0 l0.length l0) (hc0 : l0.length ≤ c0) (h : foliotref01_Print.f l0 = some r) :
  Calls Try.prog 40 #[.slice A0 l0.length c0] w fun e w' => e = .returned (.string r) ∧ Below w.heap.size w w' := by
 unfold foliotref01_Print.f at h
 split at h
 ·rename_i hf
  injection h with h
  obtain ⟨K, hK⟩ := Nb.rprint_ev hf.2 hf.1
  exact N.foliotref01_Print.calls K A0 c0 l0 _ w hr0 hc0 ((hK K (Nat.le_refl _)).trans (congrArg some h))
 ·cases h
def foliotref02_Print.f (a0_0 : Bool) (l0_1 : List Int) : Option (ByteArray) := (foliotref02_Norm.f a0_0 l0_1).bind fun bt535 => (if bt535.1 = true then ((foliotref01_Print.f bt535.2).bind fun t539 => (if 1 + t539.size ≤ 9223372036854775807 then (some ((⟨#[45]⟩ : ByteArray) ++ t539)) else (none))) else ((foliotref01_Print.f bt535.2).bind fun t540 => (some t540)))
set_option maxHeartbeats 8000000 in
set_option maxRecDepth 100000 in
theorem foliotref02_Print.calls (a0_0 : Bool) (A0_1 : Option Addr) (c0_1 : Nat) (l0_1 : List Int) (r : ByteArray) (w : World) (hr0_1 : Kd.C (Kd.int .u32) w A0_1 l0_1.length l0_1) (hc0_1 : l0_1.length ≤ c0_1) (h : foliotref02_Print.f a0_0 l0_1 = some r) :
  Calls Try.prog 61 #[.agg #[.bool a0_0, .slice A0_1 l0_1.length c0_1]] w fun e w' => e = .returned (.string r) ∧ Below w.heap.size w w' := by
 have hu39 := Try.underlying39
 have HR0_1 := Aside0.mk hr0_1
 have HC0_1 := Aside0.mk hc0_1
 clear hr0_1 hc0_1
 have HB := Aside0.mk (Below.refl w.heap.size w)
 have H : ((foliotref02_Norm.f a0_0 l0_1).bind fun bt535 => (if bt535.1 = true then ((foliotref01_Print.f bt535.2).bind fun t539 => (if 1 + t539.size ≤ 9223372036854775807 then (some ((⟨#[45]⟩ : ByteArray) ++ t539)) else (none))) else ((foliotref01_Print.f bt535.2).bind fun t540 => (some t540)))) = some r := h
 clear h
 replace H := Sq.bd H
 obtain ⟨⟨t535, t536⟩, A2, H⟩ := H
 (try dsimp -simprocs only at H)
 by_cases c3 : t535 = true
 ·subst c3
  have H1 : ((foliotref01_Print.f t536).bind fun t539 => (if 1 + t539.size ≤ 9223372036854775807 then (some ((⟨#[45]⟩ : ByteArray) ++ t539)) else (none))) = some r := by rw [if_pos rfl] at H; exact H
  clear H
  have H := H1
  clear H1
  replace H := Sq.bd H
  obtain ⟨t539, A4, H⟩ := H
  (try dsimp -simprocs only at H)
  replace H := Sq.ifs H
  obtain ⟨c5, H⟩ := H
  have c5b0 := eq_true c5
  have c5b1 : decide (1 + t539.size ≤ 9223372036854775807) = true := decide_eq_true c5
  try have c5b2 : (9223372036854775807 < 1 + t539.size) = False := eq_false (Nat.not_lt.2 c5)
  obtain rfl := Option.some.inj H
  go_enter Try.func61, Try.ntmps61
  go_wp2_with (first | ((with_reducible refine gate_dst (N := 1) rfl ?_); refine box_event ?hg (N := 1) ?hd (cs := #[.bool a0_0, .slice A0_1 l0_1.length c0_1]) (t := 39) ?hr ?_; (case hd => rfl); (case hg => rfl); (case hr => first | (go_simp; done) | (go_simp; rfl)); intro gb534 hg w6 hbox hb; have BK534 := Aside0.mk (hbox); have GW534 := Sq.gw HB hg; have GE534 := Sq.gw HB hg; replace HB := Sq.bs HB hb; clear hb hbox hg; have hcz7_0 := Sq.bc BK534 0 (.bool a0_0); have hcz7_1 := Sq.bc BK534 1 (.slice A0_1 l0_1.length c0_1); have hfz7_0 := blk_frozen BK534.out 0; have hfz7_1 := blk_frozen BK534.out 1) | ((with_reducible refine gate_callee (f := 73) rfl ?_); refine Sq.gl (some 4) Try.func73 #[.agg #[.bool a0_0, .slice A0_1 l0_1.length c0_1]] ?_; (with_reducible refine (foliotref02_Norm.calls a0_0 _ _ l0_1 true t536 _ ?side1 ?side2 A2.out).mono ?_); (case side1 => exact Sq.ca (Kd.C_below HR0_1.out HB.out)); (case side2 => exact HC0_1.out); rintro e w8 ⟨v537, rfl, ho0, hb⟩; refine ⟨_, rfl, ?_⟩; have HO538 := Aside0.mk (Kd.R_lower ho0 (below_size (Sq.bl HB))); replace BK534 := Sq.bb BK534 hb; replace HB := Sq.bs HB hb; (try clear hb); (try clear hb2); (try clear hk); (try clear hi); (try clear ho0); have hcz9_0 := Sq.bc BK534 0 (.bool a0_0); have hcz9_1 := Sq.bc BK534 1 (.slice A0_1 l0_1.length c0_1); have hfz9_0 := blk_frozen BK534.out 0; have hfz9_1 := blk_frozen BK534.out 1; obtain ⟨Ao10, co10, eo10⟩ := Kd.R_slice HO538.out; subst eo10) | ((with_reducible refine gate_callee (f := 40) rfl ?_); refine Sq.gl (some 9) Try.func40 #[.slice Ao10 t536.length co10] ?_; (with_reducible refine (foliotref01_Print.calls _ _ t536 t539 _ ?side1 ?side2 A4.out).mono ?_); (case side1 => refine (Kd.R_reads' (e := 107) (base := w.heap.size) (ok := fun k_ => True) (n := t536.length) (c := co10) ?_).2.2; exact (by (with_reducible repeat (first | apply Kd.R_alloc | apply Kd.R_drewN | apply Kd.R_drew)); exact (Kd.R_mono (Kd.R_far (p := ⟨gb534, 1, none⟩) (Kd.R_far (p := ⟨gb534, 0, none⟩) (Sq.rt HO538.out BK534) (fun _ hk => hk.2) (.bool true)) (fun _ hk => hk.2) (.slice Ao10 t536.length co10)) (fun _ h_ => h_.1)))); (case side2 => exact (Kd.R_reads' HO538.out).2.1); rintro e w11 ⟨rfl, hb⟩; refine ⟨_, rfl, ?_⟩; replace HO538 := Aside0.mk (Kd.R_below (by (with_reducible repeat (first | apply Kd.R_alloc | apply Kd.R_drewN | apply Kd.R_drew)); exact (Kd.R_mono (Kd.R_far (p := ⟨gb534, 1, none⟩) (Kd.R_far (p := ⟨gb534, 0, none⟩) (Sq.rt HO538.out BK534) (fun _ hk => hk.2) (.bool true)) (fun _ hk => hk.2) (.slice Ao10 t536.length co10)) (fun _ h_ => h_.1))) hb); replace HB := Sq.bs HB hb; replace BK534 := Aside0.mk (blk_below (g := gb534) (o := .cells #[.bool true, .slice Ao10 t536.length co10] 39 (0, 0)) (by (with_reducible repeat (first | refine blk_drewN ?_ _ | refine blk_drew ?_ | refine blk_alloc ?_ _)); refine blk_put (cs := #[.bool true, .slice A0_1 l0_1.length c0_1]) ?_ 1 _ rfl; (with_reducible repeat (first | refine blk_drewN ?_ _ | refine blk_drew ?_ | refine blk_alloc ?_ _)); refine blk_put (cs := #[.bool a0_0, .slice A0_1 l0_1.length c0_1]) ?_ 0 _ rfl; (with_reducible repeat (first | refine blk_drewN ?_ _ | refine blk_drew ?_ | refine blk_alloc ?_ _)); exact BK534.out) hb); (try clear hb); (try clear hb2); (try clear hk); (try clear hi)))
  go_ret
  exact ⟨by first | rfl | (simp [errW_none, errW_some] <;> rfl) | (simp [*, errW_none, errW_some] <;> rfl), Sq.bl HB⟩
 ·replace c3 := Bool.eq_false_iff.mpr c3
  subst c3
  have H1 : ((foliotref01_Print.f t536).bind fun t540 => (some t540)) = some r := by rw [if_neg (show ¬ (false = true) by decide)] at H; exact H
  clear H
  have H := H1
  clear H1
  replace H := Sq.bd H
  obtain ⟨t540, A12, H⟩ := H
  (try dsimp -simprocs only at H)
  obtain rfl := Option.some.inj H
  go_enter Try.func61, Try.ntmps61
  go_wp2_with (first | ((with_reducible refine gate_dst (N := 1) rfl ?_); refine box_event ?hg (N := 1) ?hd (cs := #[.bool a0_0, .slice A0_1 l0_1.length c0_1]) (t := 39) ?hr ?_; (case hd => rfl); (case hg => rfl); (case hr => first | (go_simp; done) | (go_simp; rfl)); intro gb534 hg w13 hbox hb; have BK534 := Aside0.mk (hbox); have GW534 := Sq.gw HB hg; have GE534 := Sq.gw HB hg; replace HB := Sq.bs HB hb; clear hb hbox hg; have hcz14_0 := Sq.bc BK534 0 (.bool a0_0); have hcz14_1 := Sq.bc BK534 1 (.slice A0_1 l0_1.length c0_1); have hfz14_0 := blk_frozen BK534.out 0; have hfz14_1 := blk_frozen BK534.out 1) | ((with_reducible refine gate_callee (f := 73) rfl ?_); refine Sq.gl (some 4) Try.func73 #[.agg #[.bool a0_0, .slice A0_1 l0_1.length c0_1]] ?_; (with_reducible refine (foliotref02_Norm.calls a0_0 _ _ l0_1 false t536 _ ?side1 ?side2 A2.out).mono ?_); (case side1 => exact Sq.ca (Kd.C_below HR0_1.out HB.out)); (case side2 => exact HC0_1.out); rintro e w15 ⟨v537, rfl, ho0, hb⟩; refine ⟨_, rfl, ?_⟩; have HO538 := Aside0.mk (Kd.R_lower ho0 (below_size (Sq.bl HB))); replace BK534 := Sq.bb BK534 hb; replace HB := Sq.bs HB hb; (try clear hb); (try clear hb2); (try clear hk); (try clear hi); (try clear ho0); have hcz16_0 := Sq.bc BK534 0 (.bool a0_0); have hcz16_1 := Sq.bc BK534 1 (.slice A0_1 l0_1.length c0_1); have hfz16_0 := blk_frozen BK534.out 0; have hfz16_1 := blk_frozen BK534.out 1; obtain ⟨Ao17, co17, eo17⟩ := Kd.R_slice HO538.out; subst eo17) | ((with_reducible refine gate_callee (f := 40) rfl ?_); refine Sq.gl (some 13) Try.func40 #[.slice Ao17 t536.length co17] ?_; (with_reducible refine (foliotref01_Print.calls _ _ t536 t540 _ ?side1 ?side2 A12.out).mono ?_); (case side1 => refine (Kd.R_reads' (e := 107) (base := w.heap.size) (ok := fun k_ => True) (n := t536.length) (c := co17) ?_).2.2; exact (by (with_reducible repeat (first | apply Kd.R_alloc | apply Kd.R_drewN | apply Kd.R_drew)); exact (Kd.R_mono (Kd.R_far (p := ⟨gb534, 1, none⟩) (Kd.R_far (p := ⟨gb534, 0, none⟩) (Sq.rt HO538.out BK534) (fun _ hk => hk.2) (.bool false)) (fun _ hk => hk.2) (.slice Ao17 t536.length co17)) (fun _ h_ => h_.1)))); (case side2 => exact (Kd.R_reads' HO538.out).2.1); rintro e w18 ⟨rfl, hb⟩; refine ⟨_, rfl, ?_⟩; replace HO538 := Aside0.mk (Kd.R_below (by (with_reducible repeat (first | apply Kd.R_alloc | apply Kd.R_drewN | apply Kd.R_drew)); exact (Kd.R_mono (Kd.R_far (p := ⟨gb534, 1, none⟩) (Kd.R_far (p := ⟨gb534, 0, none⟩) (Sq.rt HO538.out BK534) (fun _ hk => hk.2) (.bool false)) (fun _ hk => hk.2) (.slice Ao17 t536.length co17)) (fun _ h_ => h_.1))) hb); replace HB := Sq.bs HB hb; replace BK534 := Aside0.mk (blk_below (g := gb534) (o := .cells #[.bool false, .slice Ao17 t536.length co17] 39 (0, 0)) (by (with_reducible repeat (first | refine blk_drewN ?_ _ | refine blk_drew ?_ | refine blk_alloc ?_ _)); refine blk_put (cs := #[.bool false, .slice A0_1 l0_1.length c0_1]) ?_ 1 _ rfl; (with_reducible repeat (first | refine blk_drewN ?_ _ | refine blk_drew ?_ | refine blk_alloc ?_ _)); refine blk_put (cs := #[.bool a0_0, .slice A0_1 l0_1.length c0_1]) ?_ 0 _ rfl; (with_reducible repeat (first | refine blk_drewN ?_ _ | refine blk_drew ?_ | refine blk_alloc ?_ _)); exact BK534.out) hb); (try clear hb); (try clear hb2); (try clear hk); (try clear hi)))
  go_ret
  exact ⟨by first | rfl | (simp [errW_none, errW_some] <;> rfl) | (simp [*, errW_none, errW_some] <;> rfl), Sq.bl HB⟩
end Go.Proofs.Ytaclkccgjpjdjaa.I
