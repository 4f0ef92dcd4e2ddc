import Derived.Test.YtaclkccgjpjdjaaGreatQfaheplbobdNx0
import Derived.Test.YtaclkccgjpjdjaaGreatQabpbnhiiplNx4
import Derived.Test.YtaclkccgjpjdjaaGreatQfnldgfjlipNx5
import Derived.Test.YtaclkccgjpjdjaaGreatQokppbkhdpoNx9
import Derived.Test.YtaclkccgjpjdjaaGreatQgfcnglnngnM
namespace Go.Proofs.YtaclkccgjpjdjaaGreat.N
open Go.RowKit Go.Proofs.YtaclkccgjpjdjaaGreatW.PrintWords Go.Proofs.YtaclkccgjpjdjaaGreatW.PrintLast Go.Proofs.YtaclkccgjpjdjaaGreatW.PrintMore
attribute [local go_sem] max2_int min2_int max_two min_two max_three min_three max_four min_four   -- for this text's walks alone
set_option linter.unusedVariables false
set_option linter.unusedSimpArgs false
def nat_Sub.l0 : Nat → List Int → List Int → Int → Int → Int → Option (List Int × Int)
 | 0, _, _, _, _, _ => none
 | k + 1, x1, x6, x7, x19, x20 => if x20 < x19 then (if 0 ≤ x20 then (if x20 < (x6.length : Int) then (if x20 < (x1.length : Int) then (if (IntKind.u64.wrap (rd x6 x20)) < (IntKind.u64.wrap ((IntKind.u64.wrap (x7)) + (IntKind.u64.wrap (rd x1 x20)))) then (nat_Sub.l0 k x1 (x6.set (x20 : Int).toNat ((IntKind.u64.wrap ((IntKind.u64.wrap (rd x6 x20)) - (IntKind.u64.wrap ((IntKind.u64.wrap (x7)) + (IntKind.u64.wrap (rd x1 x20)))))) % 4294967296)) 1 x19 (wrap64 (x20 + 1))) else (nat_Sub.l0 k x1 (x6.set (x20 : Int).toNat ((IntKind.u64.wrap ((IntKind.u64.wrap (rd x6 x20)) - (IntKind.u64.wrap ((IntKind.u64.wrap (x7)) + (IntKind.u64.wrap (rd x1 x20)))))) % 4294967296)) 0 x19 (wrap64 (x20 + 1)))) else (if (IntKind.u64.wrap (rd x6 x20)) < (IntKind.u64.wrap (x7)) then (nat_Sub.l0 k x1 (x6.set (x20 : Int).toNat ((IntKind.u64.wrap ((IntKind.u64.wrap (rd x6 x20)) - (IntKind.u64.wrap (x7)))) % 4294967296)) 1 x19 (wrap64 (x20 + 1))) else (nat_Sub.l0 k x1 (x6.set (x20 : Int).toNat ((IntKind.u64.wrap ((IntKind.u64.wrap (rd x6 x20)) - (IntKind.u64.wrap (x7)))) % 4294967296)) 0 x19 (wrap64 (x20 + 1))))) else (none)) else (none)) else ((nat_cut.f k x6).bind fun t500 => (some (t500, 0)))
def nat_Sub.f (k : Nat) (l0 : List Int) (l1 : List Int) : Option (List Int × Int) := (nat_Cmp.f k l0 l1).bind fun t493 => (if t493 < 0 then (some (([] : List Int), 1)) else ((nat_cut.f k l0).bind fun t494 => ((slices_Clone_uint32_uint32.f t494).bind fun t497 => (nat_Sub.l0 k l1 t497 0 (t497.length : Int) 0))))
set_option maxHeartbeats 8000000 in
set_option maxRecDepth 100000 in
theorem nat_Sub.calls (k : Nat) (P0_ : Nat → Prop) (A0 : Option Addr) (c0 : Nat) (l0 : List Int) (A1 : Option Addr) (c1 : Nat) (l1 : List Int) (r1 : List Int) (r2 : Int) (w : World) (hs0 : Kd.V (Kd.int .u32) 89 w w.heap.size (fun k_ => P0_ k_) (.slice A0 l0.length c0) l0) (hr1 : Kd.C (Kd.int .u32) w A1 l1.length l1) (hc1 : l1.length ≤ c1) (h : nat_Sub.f k l0 l1 = some (r1, r2)) :
  Calls Tryz.prog 110 #[.slice A0 l0.length c0, .slice A1 l1.length c1] w fun e w' => ∃ v0_ : Value, e = .returned (.tuple #[v0_, .int .i64 r2]) ∧ Kd.V (Kd.int .u32) 89 w' w.heap.size (fun k_ => (P0_ k_ ∨ w.heap.size ≤ k_)) v0_ r1 ∧ Below w.heap.size w w' := by
 have HO0 := Aside0.mk (show Kd.V (Kd.int .u32) 89 w w.heap.size (fun k_ => (P0_ k_ ∨ w.heap.size ≤ k_)) (.slice A0 l0.length c0) l0 from Kd.V_mono hs0 (fun k_ hk => .inl hk))
 have HR1 := Aside0.mk hr1
 have HC1 := Aside0.mk hc1
 clear hr1 hc1
 have HB := Aside0.mk (Below.refl w.heap.size w)
 have H : ((nat_Cmp.f k l0 l1).bind fun t493 => (if t493 < 0 then (some (([] : List Int), 1)) else ((nat_cut.f k l0).bind fun t494 => ((slices_Clone_uint32_uint32.f t494).bind fun t497 => (nat_Sub.l0 k l1 t497 0 (t497.length : Int) 0))))) = some (r1, r2) := h
 clear h
 replace H := Sq.bd H
 obtain ⟨t493, A3, H⟩ := H
 (try dsimp -simprocs only at H)
 by_cases c4 : t493 < 0
 ·rw [if_pos c4] at H
  have c4b0 : decide (t493 < 0) = true := decide_eq_true c4
  clear c4
  simp only [Option.some.injEq, Prod.mk.injEq] at H
  obtain ⟨rfl, rfl⟩ := H
  go_enter Tryz.func110, Tryz.ntmps110
  go_wp2_with (first | ((with_reducible refine gate_callee (f := 117) rfl ?_); refine Sq.gl (some 13) Tryz.func117 #[.slice A0 l0.length c0, .slice A1 l1.length c1] ?_; (with_reducible refine (nat_Cmp.calls k _ _ l0 _ _ l1 t493 _ ?side1 ?side2 ?side3 ?side4 A3.out).mono ?_); (case side1 => exact Sq.ca (Kd.V_reads' HO0.out).2.2); (case side2 => exact (Kd.V_reads' HO0.out).2.1); (case side3 => repeat (first | exact HR1.out | (with_reducible refine Kd.C_alloc ?_ _) | (with_reducible refine Kd.C_drewN ?_ _) | (with_reducible refine Kd.C_drew ?_))); (case side4 => exact HC1.out); rintro e w5 ⟨rfl, hb⟩; refine ⟨_, rfl, ?_⟩; replace HO0 := Aside0.mk (Kd.V_below (Sq.al HO0) hb); replace HB := Sq.bs HB hb; (try clear hb); (try clear hb2); (try clear hk); (try clear hi)))
  go_ret2
  exact ⟨_, by first | rfl | (simp [errW_none, errW_some] <;> rfl) | (simp [*, errW_none, errW_some] <;> rfl), (by exact Kd.V_nil _ _ _ _ _), Sq.bl HB⟩
 ·rw [if_neg c4] at H
  have c4b0 : decide (t493 < 0) = false := decide_eq_false c4
  clear c4
  replace H := Sq.bd H
  obtain ⟨t494, A6, H⟩ := H
  (try dsimp -simprocs only at H)
  replace H := Sq.bd H
  obtain ⟨t497, A7, H⟩ := H
  (try dsimp -simprocs only at H)
  have H' := Aside0.mk H
  clear H
  go_enter Tryz.func110, Tryz.ntmps110
  go_wp2_with (first | ((with_reducible refine gate_callee (f := 117) rfl ?_); refine Sq.gl (some 13) Tryz.func117 #[.slice A0 l0.length c0, .slice A1 l1.length c1] ?_; (with_reducible refine (nat_Cmp.calls k _ _ l0 _ _ l1 t493 _ ?side1 ?side2 ?side3 ?side4 A3.out).mono ?_); (case side1 => exact Sq.ca (Kd.V_reads' HO0.out).2.2); (case side2 => exact (Kd.V_reads' HO0.out).2.1); (case side3 => repeat (first | exact HR1.out | (with_reducible refine Kd.C_alloc ?_ _) | (with_reducible refine Kd.C_drewN ?_ _) | (with_reducible refine Kd.C_drew ?_))); (case side4 => exact HC1.out); rintro e w8 ⟨rfl, hb⟩; refine ⟨_, rfl, ?_⟩; replace HO0 := Aside0.mk (Kd.V_below (Sq.al HO0) hb); replace HB := Sq.bs HB hb; (try clear hb); (try clear hb2); (try clear hk); (try clear hi)) | ((with_reducible refine gate_callee (f := 99) rfl ?_); refine Sq.gl (some 16) Tryz.func99 #[.slice A0 l0.length c0] ?_; (with_reducible refine (nat_cut.calls k (fun k_ => (P0_ k_ ∨ w.heap.size ≤ k_)) _ _ l0 t494 _ ?side1 A6.out).mono ?_); (case side1 => exact HO0.out); rintro e w9 ⟨v495, rfl, ho0, hb⟩; refine ⟨_, rfl, ?_⟩; replace HO0 := Aside0.mk (Kd.V_below (Sq.al HO0) hb); have HO496 := Aside0.mk (Kd.V_lower (Kd.V_mono (ok' := fun k_ => (P0_ k_ ∨ w.heap.size ≤ k_)) ho0 (fun k_ hk_ => Or.elim hk_ (fun hs_ => hs_) (fun hn_ => (.inr (Nat.le_trans (below_size (Sq.bl HB)) hn_))))) (below_size (Sq.bl HB))); replace HB := Sq.bs HB hb; (try clear hb); (try clear hb2); (try clear hk); (try clear hi); (try clear ho0); obtain ⟨Ao10, co10, eo10⟩ := Kd.V_slice HO496.out; subst eo10) | ((with_reducible refine gate_callee (f := 140) rfl ?_); refine Sq.gl (some 17) Tryz.func140 #[.slice Ao10 t494.length co10] ?_; (with_reducible refine (slices_Clone_uint32_uint32.calls _ _ t494 t497 _ ?side1 ?side2 A7.out).mono ?_); (case side1 => exact Sq.ca (Kd.V_reads' HO496.out).2.2); (case side2 => exact (Kd.V_reads' HO496.out).2.1); rintro e w11 ⟨v498, rfl, ho0, hb⟩; refine ⟨_, rfl, ?_⟩; replace HO0 := Aside0.mk (Kd.V_elder' (Sq.al HO0) (Kd.R_base ho0) hb); replace HO496 := Aside0.mk (Kd.V_elder' (Sq.al HO496) (Kd.R_base ho0) hb); have HO499 := Aside0.mk (Kd.R_lower (Kd.R_newM (M := fun k_ => (w.heap.size ≤ k_)) ho0 (below_size (Sq.bl HB)) (fun k_ h_ => h_)) (below_size (Sq.bl HB))); replace HB := Sq.bs HB hb; (try clear hb); (try clear hb2); (try clear hk); (try clear hi); (try clear ho0); obtain ⟨Ao12, co12, eo12⟩ := Kd.R_slice HO499.out; subst eo12))
  go_loopg [7, 20] k (fun kq v7 v20 w' => ∃ (x6_1 : List Int) (x7_1 : Int) (x20_1 : Int), v7 = .int .u32 x7_1 ∧ v20 = .int .i64 x20_1 ∧ Aside0 (nat_Sub.l0 kq l1 x6_1 x7_1 (t497.length : Int) x20_1 = some (r1, r2)) ∧ Aside0 (kq ≤ k) ∧ Aside0 (Kd.R (Kd.int .u32) 89 w' w.heap.size (fun k_ => (w.heap.size ≤ k_)) (.slice Ao12 t497.length co12) x6_1) ∧ Aside0 (Below w.heap.size w w'))
  case atStart => exact ⟨(t497), (0), (0), (by first | rfl | (simp; done) | (simp [*]; done)), (by first | rfl | (simp; done) | (simp [*]; done)), H', ⟨Nat.le_refl _⟩, ⟨by (with_reducible repeat (first | apply Kd.R_alloc | apply Kd.R_drewN | apply Kd.R_drew)); exact Kd.R_mono HO499.out (fun _ hk => hk.1)⟩, ⟨Sq.bl HB⟩⟩
  case round =>
   clear H'
   try clear c1
   try clear p2
   try clear c4
   try clear c4b0
   try clear c9
   try clear c11
   obtain ⟨x6_1, x7_1, x20_1, rfl, rfl, HA, HK1, HO_6, HB⟩ := hrel
   have hl6_1 := (Kd.R_reads' HO_6.out).1
   rw [hl6_1] at HO_6
   (try simp only [hl6_1])
   cases gk with
   | zero => exact absurd HA.out (by simp [nat_Sub.l0])
   | succ k1 =>
    have H := HA.out
    clear HA
    simp only [nat_Sub.l0] at H
    by_cases c13 : x20_1 < (t497.length : Int)
    ·rw [if_pos c13] at H
     have c13b0 : decide (x20_1 < (t497.length : Int)) = true := decide_eq_true c13
     clear c13
     replace H := Sq.ifs H
     obtain ⟨c14, H⟩ := H
     have c14b0 : decide (0 ≤ x20_1) = true := decide_eq_true c14
     clear c14
     replace H := Sq.ifs H
     obtain ⟨c15, H⟩ := H
     have c15b0 : decide (x20_1 < (x6_1.length : Int)) = true := decide_eq_true c15
     clear c15
     by_cases c16 : x20_1 < (l1.length : Int)
     ·rw [if_pos c16] at H
      have c16b0 : decide (x20_1 < (l1.length : Int)) = true := decide_eq_true c16
      clear c16
      by_cases c17 : (IntKind.u64.wrap (rd x6_1 x20_1)) < (IntKind.u64.wrap ((IntKind.u64.wrap (x7_1)) + (IntKind.u64.wrap (rd l1 x20_1))))
      ·rw [if_pos c17] at H
       have c17b0 : decide ((IntKind.u64.wrap (rd x6_1 x20_1)) < (IntKind.u64.wrap ((IntKind.u64.wrap (x7_1)) + (IntKind.u64.wrap (rd l1 x20_1))))) = true := decide_eq_true c17
       clear c17
       obtain ⟨y505, hy505⟩ : ∃ y_ : List Int, y_ = (x6_1.set (x20_1 : Int).toNat ((IntKind.u64.wrap ((IntKind.u64.wrap (rd x6_1 x20_1)) - (IntKind.u64.wrap ((IntKind.u64.wrap (x7_1)) + (IntKind.u64.wrap (rd l1 x20_1)))))) % 4294967296)) := ⟨_, rfl⟩
       (first | (replace H := Sq.ny hy505 H; (try dsimp -simprocs only at H)) | rw [← hy505] at H | skip)
       have Ny505 := Aside0.mk hy505
       clear hy505
       have H' := Aside0.mk H
       clear H
       have p503 : 0 ≤ (x20_1 : Int) := of_decide_eq_true (by first | (with_reducible assumption) | assumption)
       have q503 : x20_1 < (x6_1.length : Int) := of_decide_eq_true (by first | (with_reducible assumption) | assumption)
       obtain ⟨ad503, e503, hx503_0⟩ := Kd.at_int (Kd.R_reads' HO_6.out).2.2 x20_1 p503 q503
       cases e503
       replace p503 := eq_true p503
       replace q503 := eq_true q503
       have p504 : 0 ≤ (x20_1 : Int) := of_decide_eq_true (by first | (with_reducible assumption) | assumption)
       have q504 : x20_1 < (l1.length : Int) := of_decide_eq_true (by first | (with_reducible assumption) | assumption)
       obtain ⟨ad504, e504, hx504_0⟩ := Kd.at_int HR1.out x20_1 p504 q504
       cases e504
       replace hx504_0 := (HB.out.cell (World.block_lt_of_cell? w _ hx504_0)).trans hx504_0
       replace p504 := eq_true p504
       replace q504 := eq_true q504
       have p18 : 0 ≤ (x20_1 : Int) := of_decide_eq_true (by first | (with_reducible assumption) | assumption)
       have q18 : (x20_1 : Int) < ((x6_1.length : Int) : Int) := of_decide_eq_true (by first | (with_reducible assumption) | assumption)
       obtain ⟨go18, co18, eo18, gb18, gl18, cl18, HG18⟩ := Kd.R_form HO_6.out (by omega)
       (first | cases eo18 | (injection eo18 with ea_ en_ ec_; (first | subst ea_ | (injection ea_ with ea_; subst ea_)); subst ec_; clear en_))
       have GB18 := Aside0.mk gb18
       have GG18 := Aside0.mk HG18
       clear gb18 gl18 HG18
       (first | simp only [add_plain] at hx503_0 | skip)
       obtain ⟨hx18_0, hf18_0⟩ := Kd.R_celln 0 HO_6.out (x20_1 : Int) p18 q18
       replace p18 := eq_true p18
       replace q18 := eq_true q18
       have HP19 := Kd.R_putg HO_6.out (x20_1 : Int) ((IntKind.u64.wrap ((IntKind.u64.wrap (rd x6_1 x20_1)) - (IntKind.u64.wrap ((IntKind.u64.wrap (x7_1)) + (IntKind.u64.wrap (rd l1 x20_1)))))) % 4294967296)
       go_wp2_with (first | ((with_reducible refine gate_store (t := 89) (p := 49) rfl ?_); refine store_event (t := 89) (p := 49) (v := ?vo_w20) (w1 := (wr.setCell ⟨go18, (x20_1 : Int).toNat, none⟩ (.int .u32 ((IntKind.u64.wrap ((IntKind.u64.wrap (rd x6_1 x20_1)) - (IntKind.u64.wrap ((IntKind.u64.wrap (x7_1)) + (IntKind.u64.wrap (rd l1 x20_1)))))) % 4294967296)))) ?hg ?ho ?hn ?hr ?_; (case ho => rfl); (case hg => rfl); (case hn => rfl); (case hr => first | (go_simp; done) | (go_simp; rfl)); intro w20 hw; have hg : wr.grownBy w20 (some go18) := (by rw [hw]; exact HP19.2); have hp_ : Kd.R (Kd.int .u32) 89 w20 w.heap.size (fun k_ => (w.heap.size ≤ k_)) (.slice (some ⟨go18, 0, none⟩) x6_1.length co12) y505 := (by rw [hw, Ny505.out]; exact HP19.1); clear HP19; replace HO_6 := Aside0.mk (hp_); replace HB := Aside0.mk ((by rw [hw]; exact below_set (HB.out) GB18.out : Below w.heap.size w w20)); clear hg hw hp_))
       (try simp only [← hl6_1])
       go_roundg k1
       case measure => have := HK1.out; omega
       case rel => exact ⟨(y505), (1), (wrap64 (x20_1 + 1)), (by first | rfl | (simp; done) | (simp [*]; done)), (by first | rfl | (simp; done) | (simp [*]; done)), H', ⟨by have := HK1.out; omega⟩, ⟨by (try simp only [hl6_1]); (with_reducible repeat (first | apply Kd.R_alloc | apply Kd.R_drewN | apply Kd.R_drew)); exact HO_6.out⟩, ⟨Sq.bl HB⟩⟩
      ·rw [if_neg c17] at H
       have c17b0 : decide ((IntKind.u64.wrap (rd x6_1 x20_1)) < (IntKind.u64.wrap ((IntKind.u64.wrap (x7_1)) + (IntKind.u64.wrap (rd l1 x20_1))))) = false := decide_eq_false c17
       clear c17
       obtain ⟨y506, hy506⟩ : ∃ y_ : List Int, y_ = (x6_1.set (x20_1 : Int).toNat ((IntKind.u64.wrap ((IntKind.u64.wrap (rd x6_1 x20_1)) - (IntKind.u64.wrap ((IntKind.u64.wrap (x7_1)) + (IntKind.u64.wrap (rd l1 x20_1)))))) % 4294967296)) := ⟨_, rfl⟩
       (first | (replace H := Sq.ny hy506 H; (try dsimp -simprocs only at H)) | rw [← hy506] at H | skip)
       have Ny506 := Aside0.mk hy506
       clear hy506
       have H' := Aside0.mk H
       clear H
       have p503 : 0 ≤ (x20_1 : Int) := of_decide_eq_true (by first | (with_reducible assumption) | assumption)
       have q503 : x20_1 < (x6_1.length : Int) := of_decide_eq_true (by first | (with_reducible assumption) | assumption)
       obtain ⟨ad503, e503, hx503_0⟩ := Kd.at_int (Kd.R_reads' HO_6.out).2.2 x20_1 p503 q503
       cases e503
       replace p503 := eq_true p503
       replace q503 := eq_true q503
       have p504 : 0 ≤ (x20_1 : Int) := of_decide_eq_true (by first | (with_reducible assumption) | assumption)
       have q504 : x20_1 < (l1.length : Int) := of_decide_eq_true (by first | (with_reducible assumption) | assumption)
       obtain ⟨ad504, e504, hx504_0⟩ := Kd.at_int HR1.out x20_1 p504 q504
       cases e504
       replace hx504_0 := (HB.out.cell (World.block_lt_of_cell? w _ hx504_0)).trans hx504_0
       replace p504 := eq_true p504
       replace q504 := eq_true q504
       have p21 : 0 ≤ (x20_1 : Int) := of_decide_eq_true (by first | (with_reducible assumption) | assumption)
       have q21 : (x20_1 : Int) < ((x6_1.length : Int) : Int) := of_decide_eq_true (by first | (with_reducible assumption) | assumption)
       obtain ⟨go21, co21, eo21, gb21, gl21, cl21, HG21⟩ := Kd.R_form HO_6.out (by omega)
       (first | cases eo21 | (injection eo21 with ea_ en_ ec_; (first | subst ea_ | (injection ea_ with ea_; subst ea_)); subst ec_; clear en_))
       have GB21 := Aside0.mk gb21
       have GG21 := Aside0.mk HG21
       clear gb21 gl21 HG21
       (first | simp only [add_plain] at hx503_0 | skip)
       obtain ⟨hx21_0, hf21_0⟩ := Kd.R_celln 0 HO_6.out (x20_1 : Int) p21 q21
       replace p21 := eq_true p21
       replace q21 := eq_true q21
       have HP22 := Kd.R_putg HO_6.out (x20_1 : Int) ((IntKind.u64.wrap ((IntKind.u64.wrap (rd x6_1 x20_1)) - (IntKind.u64.wrap ((IntKind.u64.wrap (x7_1)) + (IntKind.u64.wrap (rd l1 x20_1)))))) % 4294967296)
       go_wp2_with (first | ((with_reducible refine gate_store (t := 89) (p := 49) rfl ?_); refine store_event (t := 89) (p := 49) (v := ?vo_w23) (w1 := (wr.setCell ⟨go21, (x20_1 : Int).toNat, none⟩ (.int .u32 ((IntKind.u64.wrap ((IntKind.u64.wrap (rd x6_1 x20_1)) - (IntKind.u64.wrap ((IntKind.u64.wrap (x7_1)) + (IntKind.u64.wrap (rd l1 x20_1)))))) % 4294967296)))) ?hg ?ho ?hn ?hr ?_; (case ho => rfl); (case hg => rfl); (case hn => rfl); (case hr => first | (go_simp; done) | (go_simp; rfl)); intro w23 hw; have hg : wr.grownBy w23 (some go21) := (by rw [hw]; exact HP22.2); have hp_ : Kd.R (Kd.int .u32) 89 w23 w.heap.size (fun k_ => (w.heap.size ≤ k_)) (.slice (some ⟨go21, 0, none⟩) x6_1.length co12) y506 := (by rw [hw, Ny506.out]; exact HP22.1); clear HP22; replace HO_6 := Aside0.mk (hp_); replace HB := Aside0.mk ((by rw [hw]; exact below_set (HB.out) GB21.out : Below w.heap.size w w23)); clear hg hw hp_))
       (try simp only [← hl6_1])
       go_roundg k1
       case measure => have := HK1.out; omega
       case rel => exact ⟨(y506), (0), (wrap64 (x20_1 + 1)), (by first | rfl | (simp; done) | (simp [*]; done)), (by first | rfl | (simp; done) | (simp [*]; done)), H', ⟨by have := HK1.out; omega⟩, ⟨by (try simp only [hl6_1]); (with_reducible repeat (first | apply Kd.R_alloc | apply Kd.R_drewN | apply Kd.R_drew)); exact HO_6.out⟩, ⟨Sq.bl HB⟩⟩
     ·rw [if_neg c16] at H
      have c16b0 : decide (x20_1 < (l1.length : Int)) = false := decide_eq_false c16
      clear c16
      by_cases c24 : (IntKind.u64.wrap (rd x6_1 x20_1)) < (IntKind.u64.wrap (x7_1))
      ·rw [if_pos c24] at H
       have c24b0 : decide ((IntKind.u64.wrap (rd x6_1 x20_1)) < (IntKind.u64.wrap (x7_1))) = true := decide_eq_true c24
       clear c24
       obtain ⟨y507, hy507⟩ : ∃ y_ : List Int, y_ = (x6_1.set (x20_1 : Int).toNat ((IntKind.u64.wrap ((IntKind.u64.wrap (rd x6_1 x20_1)) - (IntKind.u64.wrap (x7_1)))) % 4294967296)) := ⟨_, rfl⟩
       (first | (replace H := Sq.ny hy507 H; (try dsimp -simprocs only at H)) | rw [← hy507] at H | skip)
       have Ny507 := Aside0.mk hy507
       clear hy507
       have H' := Aside0.mk H
       clear H
       have p503 : 0 ≤ (x20_1 : Int) := of_decide_eq_true (by first | (with_reducible assumption) | assumption)
       have q503 : x20_1 < (x6_1.length : Int) := of_decide_eq_true (by first | (with_reducible assumption) | assumption)
       obtain ⟨ad503, e503, hx503_0⟩ := Kd.at_int (Kd.R_reads' HO_6.out).2.2 x20_1 p503 q503
       cases e503
       replace p503 := eq_true p503
       replace q503 := eq_true q503
       have p25 : 0 ≤ (x20_1 : Int) := of_decide_eq_true (by first | (with_reducible assumption) | assumption)
       have q25 : (x20_1 : Int) < ((x6_1.length : Int) : Int) := of_decide_eq_true (by first | (with_reducible assumption) | assumption)
       obtain ⟨go25, co25, eo25, gb25, gl25, cl25, HG25⟩ := Kd.R_form HO_6.out (by omega)
       (first | cases eo25 | (injection eo25 with ea_ en_ ec_; (first | subst ea_ | (injection ea_ with ea_; subst ea_)); subst ec_; clear en_))
       have GB25 := Aside0.mk gb25
       have GG25 := Aside0.mk HG25
       clear gb25 gl25 HG25
       (first | simp only [add_plain] at hx503_0 | skip)
       obtain ⟨hx25_0, hf25_0⟩ := Kd.R_celln 0 HO_6.out (x20_1 : Int) p25 q25
       replace p25 := eq_true p25
       replace q25 := eq_true q25
       have HP26 := Kd.R_putg HO_6.out (x20_1 : Int) ((IntKind.u64.wrap ((IntKind.u64.wrap (rd x6_1 x20_1)) - (IntKind.u64.wrap (x7_1)))) % 4294967296)
       go_wp2_with (first | ((with_reducible refine gate_store (t := 89) (p := 49) rfl ?_); refine store_event (t := 89) (p := 49) (v := ?vo_w27) (w1 := (wr.setCell ⟨go25, (x20_1 : Int).toNat, none⟩ (.int .u32 ((IntKind.u64.wrap ((IntKind.u64.wrap (rd x6_1 x20_1)) - (IntKind.u64.wrap (x7_1)))) % 4294967296)))) ?hg ?ho ?hn ?hr ?_; (case ho => rfl); (case hg => rfl); (case hn => rfl); (case hr => first | (go_simp; done) | (go_simp; rfl)); intro w27 hw; have hg : wr.grownBy w27 (some go25) := (by rw [hw]; exact HP26.2); have hp_ : Kd.R (Kd.int .u32) 89 w27 w.heap.size (fun k_ => (w.heap.size ≤ k_)) (.slice (some ⟨go25, 0, none⟩) x6_1.length co12) y507 := (by rw [hw, Ny507.out]; exact HP26.1); clear HP26; replace HO_6 := Aside0.mk (hp_); replace HB := Aside0.mk ((by rw [hw]; exact below_set (HB.out) GB25.out : Below w.heap.size w w27)); clear hg hw hp_))
       (try simp only [← hl6_1])
       go_roundg k1
       case measure => have := HK1.out; omega
       case rel => exact ⟨(y507), (1), (wrap64 (x20_1 + 1)), (by first | rfl | (simp; done) | (simp [*]; done)), (by first | rfl | (simp; done) | (simp [*]; done)), H', ⟨by have := HK1.out; omega⟩, ⟨by (try simp only [hl6_1]); (with_reducible repeat (first | apply Kd.R_alloc | apply Kd.R_drewN | apply Kd.R_drew)); exact HO_6.out⟩, ⟨Sq.bl HB⟩⟩
      ·rw [if_neg c24] at H
       have c24b0 : decide ((IntKind.u64.wrap (rd x6_1 x20_1)) < (IntKind.u64.wrap (x7_1))) = false := decide_eq_false c24
       clear c24
       obtain ⟨y508, hy508⟩ : ∃ y_ : List Int, y_ = (x6_1.set (x20_1 : Int).toNat ((IntKind.u64.wrap ((IntKind.u64.wrap (rd x6_1 x20_1)) - (IntKind.u64.wrap (x7_1)))) % 4294967296)) := ⟨_, rfl⟩
       (first | (replace H := Sq.ny hy508 H; (try dsimp -simprocs only at H)) | rw [← hy508] at H | skip)
       have Ny508 := Aside0.mk hy508
       clear hy508
       have H' := Aside0.mk H
       clear H
       have p503 : 0 ≤ (x20_1 : Int) := of_decide_eq_true (by first | (with_reducible assumption) | assumption)
       have q503 : x20_1 < (x6_1.length : Int) := of_decide_eq_true (by first | (with_reducible assumption) | assumption)
       obtain ⟨ad503, e503, hx503_0⟩ := Kd.at_int (Kd.R_reads' HO_6.out).2.2 x20_1 p503 q503
       cases e503
       replace p503 := eq_true p503
       replace q503 := eq_true q503
       have p28 : 0 ≤ (x20_1 : Int) := of_decide_eq_true (by first | (with_reducible assumption) | assumption)
       have q28 : (x20_1 : Int) < ((x6_1.length : Int) : Int) := of_decide_eq_true (by first | (with_reducible assumption) | assumption)
       obtain ⟨go28, co28, eo28, gb28, gl28, cl28, HG28⟩ := Kd.R_form HO_6.out (by omega)
       (first | cases eo28 | (injection eo28 with ea_ en_ ec_; (first | subst ea_ | (injection ea_ with ea_; subst ea_)); subst ec_; clear en_))
       have GB28 := Aside0.mk gb28
       have GG28 := Aside0.mk HG28
       clear gb28 gl28 HG28
       (first | simp only [add_plain] at hx503_0 | skip)
       obtain ⟨hx28_0, hf28_0⟩ := Kd.R_celln 0 HO_6.out (x20_1 : Int) p28 q28
       replace p28 := eq_true p28
       replace q28 := eq_true q28
       have HP29 := Kd.R_putg HO_6.out (x20_1 : Int) ((IntKind.u64.wrap ((IntKind.u64.wrap (rd x6_1 x20_1)) - (IntKind.u64.wrap (x7_1)))) % 4294967296)
       go_wp2_with (first | ((with_reducible refine gate_store (t := 89) (p := 49) rfl ?_); refine store_event (t := 89) (p := 49) (v := ?vo_w30) (w1 := (wr.setCell ⟨go28, (x20_1 : Int).toNat, none⟩ (.int .u32 ((IntKind.u64.wrap ((IntKind.u64.wrap (rd x6_1 x20_1)) - (IntKind.u64.wrap (x7_1)))) % 4294967296)))) ?hg ?ho ?hn ?hr ?_; (case ho => rfl); (case hg => rfl); (case hn => rfl); (case hr => first | (go_simp; done) | (go_simp; rfl)); intro w30 hw; have hg : wr.grownBy w30 (some go28) := (by rw [hw]; exact HP29.2); have hp_ : Kd.R (Kd.int .u32) 89 w30 w.heap.size (fun k_ => (w.heap.size ≤ k_)) (.slice (some ⟨go28, 0, none⟩) x6_1.length co12) y508 := (by rw [hw, Ny508.out]; exact HP29.1); clear HP29; replace HO_6 := Aside0.mk (hp_); replace HB := Aside0.mk ((by rw [hw]; exact below_set (HB.out) GB28.out : Below w.heap.size w w30)); clear hg hw hp_))
       (try simp only [← hl6_1])
       go_roundg k1
       case measure => have := HK1.out; omega
       case rel => exact ⟨(y508), (0), (wrap64 (x20_1 + 1)), (by first | rfl | (simp; done) | (simp [*]; done)), (by first | rfl | (simp; done) | (simp [*]; done)), H', ⟨by have := HK1.out; omega⟩, ⟨by (try simp only [hl6_1]); (with_reducible repeat (first | apply Kd.R_alloc | apply Kd.R_drewN | apply Kd.R_drew)); exact HO_6.out⟩, ⟨Sq.bl HB⟩⟩
    ·rw [if_neg c13] at H
     have c13b0 : decide (x20_1 < (t497.length : Int)) = false := decide_eq_false c13
     clear c13
     replace H := Sq.bd H
     obtain ⟨t500, A31, H⟩ := H
     (try dsimp -simprocs only at H)
     simp only [Option.some.injEq, Prod.mk.injEq] at H
     obtain ⟨rfl, rfl⟩ := H
     (try simp only [hl6_1] at c13b0)
     go_wp2_with (first | ((with_reducible refine gate_callee (f := 99) rfl ?_); refine Sq.gl (some 52) Tryz.func99 #[.slice Ao12 x6_1.length co12] ?_; (with_reducible refine (nat_cut.calls k1 (fun k_ => some k_ = (.slice Ao12 x6_1.length co12 : Value).ownBlock) _ _ x6_1 t500 _ ?side1 A31.out).mono ?_); (case side1 => exact Kd.R_V (Kd.R_tight rfl (HO_6.out))); rintro e w32 ⟨v501, rfl, ho0, hb⟩; refine ⟨_, rfl, ?_⟩; have HO502 := Aside0.mk (Kd.V_lower (Kd.V_mono (ok' := fun k_ => (P0_ k_ ∨ w.heap.size ≤ k_)) ho0 (fun k_ hk_ => Or.elim hk_ (fun hs_ => (.inr (((HO_6.out).1 k_ hs_.symm)))) (fun hn_ => (.inr (Nat.le_trans (below_size (Sq.bl HB)) hn_))))) (below_size (Sq.bl HB))); replace HO_6 := Aside0.mk (Kd.R_below (Sq.al HO_6) hb); replace HB := Sq.bs HB hb; (try clear hb); (try clear hb2); (try clear hk); (try clear hi); (try clear ho0)))
     go_ret2
     exact ⟨_, by first | rfl | (simp [errW_none, errW_some] <;> rfl) | (simp [*, errW_none, errW_some] <;> rfl), by (with_reducible repeat (first | apply Kd.V_alloc | apply Kd.V_drewN | apply Kd.V_drew)); exact HO502.out, Sq.bl HB⟩
def slices_ContainsFunc_byte_byte.PredI (g : Nat) (lb : Array Value) (p : Int → Bool) (w : World) : Prop :=
 ∀ (W : World) (x : Int), Below w.heap.size w W → Calls Tryz.prog g (#[.int .u8 x] ++ lb) W fun e w' => e = .returned (.bool (p x)) ∧ Below w.heap.size w w'
set_option maxHeartbeats 2000000 in
theorem slices_ContainsFunc_byte_byte.index (g : Nat) (lb : Array Value) (p : Int → Bool) (eg : ∀ args w, (callFunc g args).run Tryz.prog w = .ok (.enter g args) w) (A : Option Addr) (c : Nat) (l : List Int) (w : World)
  (hr : Kd.C (Kd.int .u8) w A l.length l) (hc : l.length ≤ c) (hp : slices_ContainsFunc_byte_byte.PredI g lb p w) :
  Calls Tryz.prog 163 #[.slice A l.length c, .func (.func g) #[] lb] w fun e w' => (∃ r : Int, e = .returned (.int .i64 r) ∧ decide (0 ≤ r) = l.any p) ∧ Below w.heap.size w w' := by
 have h9 : l.length ≤ 9223372036854775807 := hr.2.1
 have HR := Aside0.mk hr
 clear hr
 go_enter Tryz.func163, Tryz.ntmps163
 go_wp2
 go_loopg [5, 8] l.length (fun gg _ s8 wr => ∃ kk : Nat, kk ≤ l.length ∧ l.length - kk ≤ gg ∧ s8 = .int .i64 kk ∧ Aside0 (Below w.heap.size w wr) ∧ Aside0 (∀ j (h : j < l.length), j < kk → p l[j] = false))
 case atStart => exact ⟨0, Nat.zero_le _, by omega, rfl, ⟨Below.refl _ w⟩, ⟨fun j _ hj => absurd hj (Nat.not_lt_zero _)⟩⟩
 case round =>
  obtain ⟨kk, hkk, hg, rfl, HB, HA⟩ := hrel
  by_cases hlt : kk < l.length
  ·obtain ⟨ad, cs, e0, _, hK, hcell⟩ := Kd.C_get (Kd.C_below HR.out HB.out) (0 : Int) (kk : Int) (by omega) (by omega)
   subst e0
   have hK2 : cs = [.int .u8 (l.getD (kk : Int).toNat 0)] := hK
   subst hK2
   have hx : wr.cell? (ad.add kk) = some (.int .u8 l[kk]) := by
    have := hcell 0 _ rfl
    rw [Int.toNat_natCast, List.getD_eq_getElem?_getD, List.getElem?_eq_getElem hlt] at this
    simpa [Kd.int, Kd.scalar] using this
   clear hcell hK
   have hltz : (kk : Int) < (l.length : Int) := by omega
   have hcall := hp wr l[kk] HB.out
   generalize hy : l[kk] = y at hx hcall
   have HY := Aside0.mk hy
   clear hy
   cases hq : p y with
   | true =>
    rw [hq] at hcall
    clear hp
    go_wp2
    refine hcall.mono ?_
    clear hcall
    rintro e w' ⟨rfl, hb'⟩
    go_wp2
    go_ret
    refine ⟨⟨(kk : Int), rfl, ?_⟩, hb'⟩
    rw [decide_eq_true (Int.natCast_nonneg kk)]
    exact (List.any_eq_true.mpr ⟨l[kk], List.getElem_mem _, by rw [HY.out]; exact hq⟩).symm
   | false =>
    rw [hq] at hcall
    clear hp
    go_wp2
    refine hcall.mono ?_
    clear hcall
    rintro e w' ⟨rfl, hb'⟩
    go_wp2
    go_roundg (l.length - (kk + 1))
    case measure => omega
    case rel =>
     refine ⟨kk + 1, by omega, Nat.le_refl _, ?_, ⟨hb'⟩, ⟨fun j hj hjk => ?_⟩⟩
     ·simp
     ·by_cases e : j = kk
      ·subst e; rw [HY.out]; exact hq
      ·exact HA.out j hj (by omega)
  ·have hltz : ¬ (kk : Int) < (l.length : Int) := by omega
   go_wp2
   go_ret
   refine ⟨⟨-1, rfl, ?_⟩, HB.out⟩
   rw [show decide ((0 : Int) ≤ -1) = false from rfl]
   symm
   rw [List.any_eq_false]
   intro x hx
   obtain ⟨j, hj, rfl⟩ := List.getElem_of_mem hx
   rw [HA.out j hj (by omega)]
   decide
theorem slices_ContainsFunc_byte_byte.contains (g : Nat) (lb : Array Value) (p : Int → Bool) (eg : ∀ args w, (callFunc g args).run Tryz.prog w = .ok (.enter g args) w) (A : Option Addr) (c : Nat) (l : List Int) (w : World)
  (hr : Kd.C (Kd.int .u8) w A l.length l) (hc : l.length ≤ c) (hp : slices_ContainsFunc_byte_byte.PredI g lb p w) :
  Calls Tryz.prog 154 #[.slice A l.length c, .func (.func g) #[] lb] w fun e w' => e = .returned (.bool (l.any p)) ∧ Below w.heap.size w w' := by
 have h := slices_ContainsFunc_byte_byte.index g lb p eg A c l w hr hc hp
 clear hr hp
 go_enter Tryz.func154, Tryz.ntmps154
 go_wp2_with (go_at_call 163; refine h.mono ?_; rintro e w' ⟨⟨r, rfl, hr⟩, hb⟩)
 go_ret
 exact ⟨by rw [← hr]; rfl, hb⟩
def slices_ContainsFunc_byte_byte.strange (c : Int) : Bool := decide (c < 48) || decide (c > 57)
theorem slices_ContainsFunc_byte_byte.pred (w : World) : slices_ContainsFunc_byte_byte.PredI 153 #[] slices_ContainsFunc_byte_byte.strange w := by
 intro W x hB
 show Calls Tryz.prog 153 #[.int .u8 x] W _
 go_enter Tryz.func153, Tryz.ntmps153
 by_cases h : x < 48
 ·go_wp2
  go_ret
  exact ⟨by simp [slices_ContainsFunc_byte_byte.strange, h], hB⟩
 ·go_wp2
  go_ret
  exact ⟨by simp [slices_ContainsFunc_byte_byte.strange]; omega, hB⟩
def slices_ContainsFunc_byte_byte.f (l0 : List Int) : Option (Bool) := some (l0.any slices_ContainsFunc_byte_byte.strange)
set_option maxRecDepth 100000 in
theorem slices_ContainsFunc_byte_byte.calls (A0 : Option Addr) (c0 : Nat) (l0 : List Int) (r : Bool) (w : World) (hr0 : Kd.C (Kd.int .u8) w A0 l0.length l0) (hc0 : l0.length ≤ c0) (h : slices_ContainsFunc_byte_byte.f l0 = some r) :
  Calls Tryz.prog 154 #[.slice A0 l0.length c0, .func (.func 153) #[] #[]] w fun e w' => e = .returned (.bool r) ∧ Below w.heap.size w w' := by
 simp only [slices_ContainsFunc_byte_byte.f, Option.some.injEq] at h
 subst h
 exact slices_ContainsFunc_byte_byte.contains 153 #[] _ (fun _ _ => rfl) A0 c0 l0 w hr0 hc0 (slices_ContainsFunc_byte_byte.pred w)
theorem slices_ContainsFunc_byte_byte.calls_str (a0 : ByteArray) (hs : a0.size ≤ 9223372036854775807) (c : Nat) (hc : a0.size ≤ c) (r : Bool) (W : World) (h : (bytesOf a0).any slices_ContainsFunc_byte_byte.strange = r) :
  Calls Tryz.prog 154 #[.slice (some ⟨W.heap.size, 0, none⟩) a0.size c, .func (.func 153) #[] #[]] (Lib.bytesWorld W 5 a0) fun e w' => e = .returned (.bool r) ∧ Below W.heap.size W w' := by
 have hl := bytesOf_length a0
 have hb := bytes_below (Below.refl W.heap.size W) (Nat.le_refl _) 5 a0
 have h1 := slices_ContainsFunc_byte_byte.calls (some ⟨W.heap.size, 0, none⟩) c (bytesOf a0) r (Lib.bytesWorld W 5 a0) (by rw [hl]; exact Kd.C_of_reads (readsInt_of.1 (bytes_reads W 5 a0 hs))) (by rw [hl]; exact hc) (congrArg some h)
 rw [hl] at h1
 exact h1.mono fun e w' ⟨he, hb'⟩ => ⟨he, below_step hb hb'⟩
mutual
def nat_Parse.l0 : Nat → ByteArray → List Int → Option (List Int × Int)
 | 0, _, _ => none
 | k + 1, x0, x5 => if (x0.size : Int) > 0 then (nat_Parse.l1 k x0 x5 (mn 9 (x0.size : Int)) 0 1 (mn 9 (x0.size : Int)) 0) else (some (x5, 0))
def nat_Parse.l1 : Nat → ByteArray → List Int → Int → Int → Int → Int → Int → Option (List Int × Int)
 | 0, _, _, _, _, _, _, _ => none
 | k + 1, x0, x5, x6, x7, x8, x29, x30 => if x30 < x29 then (if 0 ≤ x30 then (if x30 < (x0.size : Int) then (nat_Parse.l1 k x0 x5 x6 ((((10 * x7) % 4294967296) + (((bt x0 x30) - 48) % 256)) % 4294967296) ((x8 * 10) % 4294967296) x29 (wrap64 (x30 + 1))) else (none)) else (none)) else ((nat_Mul.f k x5 (([x8] : List Int))).bind fun t512 => ((nat_Add.f k t512 (([x7] : List Int))).bind fun t518 => (if 0 ≤ x6 then (if x6 ≤ (x0.size : Int) then (nat_Parse.l0 k (x0.extract (x6 : Int).toNat x0.size) t518) else (none)) else (none))))
end
def nat_Parse.g (k : Nat) (a0 : ByteArray) : Option (List Int × Int) := if (a0.size : Int) > 300 then (some (([] : List Int), 2)) else (nat_Parse.l0 k a0 ([] : List Int))
set_option maxHeartbeats 8000000 in
set_option maxRecDepth 100000 in
theorem nat_Parse.calls_g (k : Nat) (a0 : ByteArray) (r1 : List Int) (r2 : Int) (w : World) (h : nat_Parse.g k a0 = some (r1, r2)) (hsz : a0.size ≤ 9223372036854775807) (h0_ : ¬ a0.toList = ([] : List UInt8)) (ha_ : (bytesOf a0).any slices_ContainsFunc_byte_byte.strange = false) :
  Calls Tryz.prog 121 #[.string a0] w fun e w' => ∃ v0_ : Value, e = .returned (.tuple #[v0_, .int .i64 r2]) ∧ Kd.V (Kd.int .u32) 89 w' w.heap.size (fun k_ => (w.heap.size ≤ k_)) v0_ r1 ∧ Below w.heap.size w w' := by
 have ns1 : (a0.toList == ([] : List UInt8)) = false := beq_eq_false_iff_ne.mpr h0_
 have ns2 : (a0.toList != ([] : List UInt8)) = true := bne_iff_ne.mpr h0_
 have kb := fun W => print_bytes (P := Tryz.prog) 9 164 5 Tryz.underlying9 Tryz.underlying164 Tryz.underlying5 a0 W
 have HSZ := Aside0.mk hsz
 have HA_ := Aside0.mk ha_
 clear hsz h0_ ha_
 have H : (if (a0.size : Int) > 300 then (some (([] : List Int), 2)) else (nat_Parse.l0 k a0 ([] : List Int))) = some (r1, r2) := h
 clear h
 by_cases c2 : (a0.size : Int) > 300
 ·rw [if_pos c2] at H
  have c2b0 : decide (300 < (a0.size : Int)) = true := decide_eq_true c2
  have c2b1 : decide (300 < a0.size) = true := decide_eq_true (by omega)
  clear c2
  simp only [Option.some.injEq, Prod.mk.injEq] at H
  obtain ⟨rfl, rfl⟩ := H
  go_enter Tryz.func121, Tryz.ntmps121
  go_wp2_with ((go_at_call 154; refine (slices_ContainsFunc_byte_byte.calls_str a0 HSZ.out _ (grownCap_ge _ _ _ _) false _ HA_.out).mono ?_; rintro e w1_ ⟨rfl, hb⟩))
  have HB := Aside0.mk hb
  clear hb kb ns1 ns2 HSZ HA_
  go_ret2
  exact ⟨_, by first | rfl | (simp [errW_none, errW_some] <;> rfl) | (simp [*, errW_none, errW_some] <;> rfl), (by exact Kd.V_nil _ _ _ _ _), Sq.bl HB⟩
 ·rw [if_neg c2] at H
  have c2b0 : decide (300 < (a0.size : Int)) = false := decide_eq_false c2
  have c2b1 : decide (300 < a0.size) = false := decide_eq_false (by omega)
  clear c2
  have H' := Aside0.mk H
  clear H
  go_enter Tryz.func121, Tryz.ntmps121
  go_wp2_with ((go_at_call 154; refine (slices_ContainsFunc_byte_byte.calls_str a0 HSZ.out _ (grownCap_ge _ _ _ _) false _ HA_.out).mono ?_; rintro e w1_ ⟨rfl, hb⟩))
  have HB := Aside0.mk hb
  clear hb kb ns1 ns2 HSZ HA_
  go_loopg [0, 5] k (fun kq v0 v5 w' => ∃ (x0_1 : ByteArray) (x5_1 : List Int), v0 = .string x0_1 ∧ Aside0 (nat_Parse.l0 kq x0_1 x5_1 = some (r1, r2)) ∧ Aside0 (kq ≤ k) ∧ Aside0 (Kd.V (Kd.int .u32) 89 w' w.heap.size (fun k_ => (w.heap.size ≤ k_)) v5 x5_1) ∧ Aside0 (Below w.heap.size w w'))
  case atStart => exact ⟨(a0), (([] : List Int)), (by first | rfl | (simp; done) | (simp [*]; done)), H', ⟨Nat.le_refl _⟩, ⟨(by exact Kd.V_nil _ _ _ _ _)⟩, ⟨Sq.bl HB⟩⟩
  case round =>
   clear H'
   try clear c1
   try clear c2
   try clear c2b0
   try clear c2b1
   try clear p2
   obtain ⟨x0_1, x5_1, rfl, HA, HK1, HO_5, HB⟩ := hrel
   cases gk with
   | zero => exact absurd HA.out (by simp [nat_Parse.l0])
   | succ k1 =>
    have H := HA.out
    clear HA
    simp only [nat_Parse.l0] at H
    by_cases c3 : (x0_1.size : Int) > 0
    ·rw [if_pos c3] at H
     have c3b0 : decide (0 < (x0_1.size : Int)) = true := decide_eq_true c3
     have c3b1 : decide (0 < x0_1.size) = true := decide_eq_true (by omega)
     clear c3
     obtain ⟨ji4, hji4⟩ : ∃ j_ : Int, (mn 9 (x0_1.size : Int)) = j_ := ⟨_, rfl⟩
     (first | rw [hji4] at H | simp only [hji4] at H)
     have hji4_ : (if (x0_1.size : Int) < 9 then (x0_1.size : Int) else 9) = ji4 := hji4
     have H' := Aside0.mk H
     clear H
     go_wp2
     go_loopg [7, 8, 30] k1 (fun kq v7 v8 v30 w' => ∃ (x7_2 : Int) (x8_2 : Int) (x30_2 : Int), v7 = .int .u32 x7_2 ∧ v8 = .int .u32 x8_2 ∧ v30 = .int .i64 x30_2 ∧ Aside0 (nat_Parse.l1 kq x0_1 x5_1 ji4 x7_2 x8_2 ji4 x30_2 = some (r1, r2)) ∧ Aside0 (kq ≤ k1) ∧ Aside0 (Kd.V (Kd.int .u32) 89 w' w.heap.size (fun k_ => (w.heap.size ≤ k_)) u5 x5_1) ∧ Aside0 (Below w.heap.size w w'))
     case atStart => exact ⟨(0), (1), (0), (by first | rfl | (simp; done) | (simp [*]; done)), (by first | rfl | (simp; done) | (simp [*]; done)), (by first | rfl | (simp; done) | (simp [*]; done)), H', ⟨Nat.le_refl _⟩, ⟨by (with_reducible repeat (first | apply Kd.V_alloc | apply Kd.V_drewN | apply Kd.V_drew)); exact HO_5.out⟩, ⟨Sq.bl HB⟩⟩
     case round =>
      clear H'
      try clear c1
      try clear c2
      try clear c2b0
      try clear c2b1
      try clear p2
      try clear c3
      try clear c3b0
      try clear c3b1
      try clear p2
      obtain ⟨x7_2, x8_2, x30_2, rfl, rfl, rfl, HA, HK2, HO_5, HB⟩ := hrel
      cases gk with
      | zero => exact absurd HA.out (by simp [nat_Parse.l1])
      | succ k2 =>
       have H := HA.out
       clear HA
       simp only [nat_Parse.l1] at H
       by_cases c5 : x30_2 < ji4
       ·rw [if_pos c5] at H
        have c5b0 : decide (x30_2 < ji4) = true := decide_eq_true c5
        clear c5
        replace H := Sq.ifs H
        obtain ⟨c6, H⟩ := H
        have c6b0 : decide (0 ≤ x30_2) = true := decide_eq_true c6
        clear c6
        replace H := Sq.ifs H
        obtain ⟨c7, H⟩ := H
        have c7b0 : decide (x30_2 < (x0_1.size : Int)) = true := decide_eq_true c7
        clear c7
        have H' := Aside0.mk H
        clear H
        have p8 : 0 ≤ (x30_2 : Int) := of_decide_eq_true (by first | (with_reducible assumption) | assumption)
        have q8 : x30_2 < (x0_1.size : Int) := of_decide_eq_true (by first | (with_reducible assumption) | assumption)
        have hx8 := bt_at x0_1 x30_2
        replace p8 := eq_true p8
        replace q8 := eq_true q8
        go_wp2
        go_roundg k2
        case measure => have := HK1.out; have := HK2.out; omega
        case rel => exact ⟨((((10 * x7_2) % 4294967296) + (((bt x0_1 x30_2) - 48) % 256)) % 4294967296), ((x8_2 * 10) % 4294967296), (wrap64 (x30_2 + 1)), (by first | rfl | (simp; done) | (simp [*]; done)), (by first | rfl | (simp; done) | (simp [*]; done)), (by first | rfl | (simp; done) | (simp [*]; done)), H', ⟨by have := HK1.out; have := HK2.out; omega⟩, ⟨by (with_reducible repeat (first | apply Kd.V_alloc | apply Kd.V_drewN | apply Kd.V_drew)); exact HO_5.out⟩, ⟨Sq.bl HB⟩⟩
       ·rw [if_neg c5] at H
        have c5b0 : decide (x30_2 < ji4) = false := decide_eq_false c5
        clear c5
        obtain ⟨y509, hy509⟩ : ∃ y_ : List Int, y_ = (([x8_2] : List Int)) := ⟨_, rfl⟩
        (first | (replace H := Sq.ny hy509 H; (try dsimp -simprocs only at H)) | rw [← hy509] at H | skip)
        have Ny509 := Aside0.mk hy509
        clear hy509
        replace H := Sq.bd H
        obtain ⟨t512, A9, H⟩ := H
        (try dsimp -simprocs only at H)
        obtain ⟨y515, hy515⟩ : ∃ y_ : List Int, y_ = (([x7_2] : List Int)) := ⟨_, rfl⟩
        (first | (replace H := Sq.ny hy515 H; (try dsimp -simprocs only at H)) | rw [← hy515] at H | skip)
        have Ny515 := Aside0.mk hy515
        clear hy515
        replace H := Sq.bd H
        obtain ⟨t518, A10, H⟩ := H
        (try dsimp -simprocs only at H)
        replace H := Sq.ifs H
        obtain ⟨c11, H⟩ := H
        have c11b0 := eq_true c11
        have c11b1 : decide (0 ≤ ji4) = true := decide_eq_true c11
        clear c11
        replace H := Sq.ifs H
        obtain ⟨c12, H⟩ := H
        have c12b0 := eq_true c12
        have c12b1 : decide (ji4 ≤ (x0_1.size : Int)) = true := decide_eq_true c12
        clear c12
        have H' := Aside0.mk H
        clear H
        go_wp2_with (first | ((with_reducible refine gate_dst (N := 46) rfl ?_); refine Kd.R_lit (Kd.int .u32) _ 89 ?hg (N := 46) ?hd (xs := ([x8_2] : List Int)) (inner := [.int .u32 x8_2]) (ok := fun _ => True) (okp := fun _ => True) ?hr ?hp (fun _ hk => hk) trivial (Below.refl _ _) (Nat.le_refl _) (by simp) ?_; (case hd => rfl); (case hg => rfl); (case hr => first | (go_simp; done) | (go_simp; rfl)); (case hp => exact (Reps.one (show Kd.M (Kd.int .u32) _ _ _ x8_2 [.int .u32 x8_2] from rfl) (Reps.none _ _))); intro v510 w13 ho14 hb hg_ hnew_; clear hg_ hnew_; (first | rw [← Ny509.out] at ho14 | (simp only [Int.reduceToNat] at ho14; rw [← Ny509.out] at ho14)); replace HO_5 := Aside0.mk (Kd.V_elder' (Sq.al HO_5) (Kd.R_base ho14) hb); have HO511 := Aside0.mk (Kd.R_lower (Kd.R_newM (M := fun k_ => (w.heap.size ≤ k_)) ho14 (below_size (Sq.bl HB)) (fun k_ h_ => h_)) (below_size (Sq.bl HB))); replace HB := Sq.bs HB hb; clear hb ho14; obtain ⟨Ao15, co15, eo15⟩ := Kd.V_slice HO_5.out; subst eo15; obtain ⟨Ao16, co16, eo16⟩ := Kd.R_slice HO511.out; subst eo16) | ((with_reducible refine gate_callee (f := 64) rfl ?_); refine Sq.gl (some 47) Tryz.func64 #[.slice Ao15 x5_1.length co15, .slice Ao16 y509.length co16] ?_; (with_reducible refine (nat_Mul.calls k2 _ _ x5_1 _ _ y509 t512 _ ?side1 ?side2 ?side3 ?side4 A9.out).mono ?_); (case side1 => exact Sq.ca (Kd.V_reads' HO_5.out).2.2); (case side2 => exact (Kd.V_reads' HO_5.out).2.1); (case side3 => exact Sq.ca (Kd.R_reads' HO511.out).2.2); (case side4 => exact (Kd.R_reads' HO511.out).2.1); rintro e w17 ⟨v513, rfl, ho0, hb⟩; refine ⟨_, rfl, ?_⟩; replace HO_5 := Aside0.mk (Kd.V_below (Sq.al HO_5) hb); have HO514 := Aside0.mk (Kd.V_lower (Kd.V_mono (ok' := fun k_ => (w.heap.size ≤ k_) ∧ some k_ ≠ (.slice Ao16 y509.length co16 : Value).ownBlock) ho0 (fun k_ hk_ => ⟨(Nat.le_trans (below_size (Sq.bl HB)) hk_), (Kd.fresh' (Kd.R_lt (Sq.al HO511)) k_ hk_)⟩)) (below_size (Sq.bl HB))); replace HO511 := Aside0.mk (Kd.R_below (Sq.al HO511) hb); replace HB := Sq.bs HB hb; (try clear hb); (try clear hb2); (try clear hk); (try clear hi); (try clear ho0)) | ((with_reducible refine gate_dst (N := 49) rfl ?_); refine Kd.R_lit (Kd.int .u32) _ 89 ?hg (N := 49) ?hd (xs := ([x7_2] : List Int)) (inner := [.int .u32 x7_2]) (ok := fun _ => True) (okp := fun _ => True) ?hr ?hp (fun _ hk => hk) trivial (Below.refl _ _) (Nat.le_refl _) (by simp) ?_; (case hd => rfl); (case hg => rfl); (case hr => first | (go_simp; done) | (go_simp; rfl)); (case hp => exact (Reps.one (show Kd.M (Kd.int .u32) _ _ _ x7_2 [.int .u32 x7_2] from rfl) (Reps.none _ _))); intro v516 w18 ho19 hb hg_ hnew_; clear hg_ hnew_; (first | rw [← Ny515.out] at ho19 | (simp only [Int.reduceToNat] at ho19; rw [← Ny515.out] at ho19)); replace HO_5 := Aside0.mk (Kd.V_elder' (Sq.al HO_5) (Kd.R_base ho19) hb); replace HO514 := Aside0.mk (Kd.V_elder' (Sq.al HO514) (Kd.R_base ho19) hb); have HO517 := Aside0.mk (Kd.R_lower (Kd.R_new' (Kd.R_newM (M := fun k_ => (w.heap.size ≤ k_)) ho19 (below_size (Sq.bl HB)) (fun k_ h_ => h_)) (Kd.R_lt (Sq.al HO511))) (below_size (Sq.bl HB))); replace HO511 := Aside0.mk (Kd.R_elder' (Sq.al HO511) (Kd.R_base ho19) hb); replace HB := Sq.bs HB hb; clear hb ho19; obtain ⟨Ao20, co20, eo20⟩ := Kd.V_slice HO514.out; subst eo20; obtain ⟨Ao21, co21, eo21⟩ := Kd.R_slice HO517.out; subst eo21) | ((with_reducible refine gate_callee (f := 109) rfl ?_); refine Sq.gl (some 50) Tryz.func109 #[.slice Ao20 t512.length co20, .slice Ao21 y515.length co21] ?_; (with_reducible refine (nat_Add.calls k2 _ _ t512 _ _ y515 t518 _ ?side1 ?side2 ?side3 ?side4 A10.out).mono ?_); (case side1 => exact Sq.ca (Kd.V_reads' HO514.out).2.2); (case side2 => exact (Kd.V_reads' HO514.out).2.1); (case side3 => exact Sq.ca (Kd.R_reads' HO517.out).2.2); (case side4 => exact (Kd.R_reads' HO517.out).2.1); rintro e w22 ⟨v519, rfl, ho0, hb⟩; refine ⟨_, rfl, ?_⟩; replace HO_5 := Aside0.mk (Kd.V_below (Sq.al HO_5) hb); replace HO514 := Aside0.mk (Kd.V_below (Sq.al HO514) hb); have HO520 := Aside0.mk (Kd.V_lower (Kd.V_mono (ok' := fun k_ => (w.heap.size ≤ k_) ∧ some k_ ≠ (.slice Ao16 y509.length co16 : Value).ownBlock ∧ some k_ ≠ (.slice Ao21 y515.length co21 : Value).ownBlock) ho0 (fun k_ hk_ => ⟨(Nat.le_trans (below_size (Sq.bl HB)) hk_), (Kd.fresh' (Kd.R_lt (Sq.al HO511)) k_ hk_), (Kd.fresh' (Kd.R_lt (Sq.al HO517)) k_ hk_)⟩)) (below_size (Sq.bl HB))); replace HO511 := Aside0.mk (Kd.R_below (Sq.al HO511) hb); replace HO517 := Aside0.mk (Kd.R_below (Sq.al HO517) hb); replace HB := Sq.bs HB hb; (try clear hb); (try clear hb2); (try clear hk); (try clear hi); (try clear ho0)))
        go_roundg k2
        case measure => have := HK1.out; have := HK2.out; omega
        case rel => exact ⟨(x0_1.extract (ji4 : Int).toNat x0_1.size), (t518), (by first | rfl | (simp; done) | (simp only [← hji4] <;> (first | rfl | simp)) | (simp [*]; done)), H', ⟨by have := HK1.out; have := HK2.out; omega⟩, ⟨by (with_reducible repeat (first | apply Kd.V_alloc | apply Kd.V_drewN | apply Kd.V_drew)); exact Kd.V_mono HO520.out (fun _ hk => hk.1)⟩, ⟨Sq.bl HB⟩⟩
    ·rw [if_neg c3] at H
     have c3b0 : decide (0 < (x0_1.size : Int)) = false := decide_eq_false c3
     have c3b1 : decide (0 < x0_1.size) = false := decide_eq_false (by omega)
     clear c3
     simp only [Option.some.injEq, Prod.mk.injEq] at H
     obtain ⟨rfl, rfl⟩ := H
     go_wp2
     go_ret2
     exact ⟨_, by first | rfl | (simp [errW_none, errW_some] <;> rfl) | (simp [*, errW_none, errW_some] <;> rfl), by (with_reducible repeat (first | apply Kd.V_alloc | apply Kd.V_drewN | apply Kd.V_drew)); exact HO_5.out, Sq.bl HB⟩
def nat_Parse.f (k : Nat) (a0 : ByteArray) : Option (List Int × Int) := if a0.size ≤ 140737488351232 then (if a0.toList = ([] : List UInt8) then some ([], 4) else if (bytesOf a0).any slices_ContainsFunc_byte_byte.strange = true then some ([], 4) else nat_Parse.g k a0) else none
theorem nat_Parse.calls (k : Nat) (a0 : ByteArray) (r1 : List Int) (r2 : Int) (w : World) (h : nat_Parse.f k a0 = some (r1, r2)) :
  Calls Tryz.prog 121 #[.string a0] w fun e w' => ∃ v0_ : Value, e = .returned (.tuple #[v0_, .int .i64 r2]) ∧ Kd.V (Kd.int .u32) 89 w' w.heap.size (fun k_ => (w.heap.size ≤ k_)) v0_ r1 ∧ Below w.heap.size w w' := by
 unfold nat_Parse.f at h
 by_cases hs : a0.size ≤ 140737488351232
 ·rw [if_pos hs] at h
  by_cases h0 : a0.toList = ([] : List UInt8)
  ·rw [if_pos h0] at h
   injection h with h
   injection h with h1 h2
   subst h1 h2
   have c2b0 : (a0.toList == ([] : List UInt8)) = true := beq_iff_eq.mpr h0
   have c2b1 : (a0.toList != ([] : List UInt8)) = false := bne_eq_false_iff_eq.mpr h0
   clear h0 hs
   go_enter Tryz.func121, Tryz.ntmps121
   go_wp2
   go_ret2
   exact ⟨_, rfl, (by exact Kd.V_nil _ _ _ _ _), Below.refl _ _⟩
  ·rw [if_neg h0] at h
   by_cases ha : (bytesOf a0).any slices_ContainsFunc_byte_byte.strange = true
   ·rw [if_pos ha] at h
    injection h with h
    injection h with h1 h2
    subst h1 h2
    have ns1 : (a0.toList == ([] : List UInt8)) = false := beq_eq_false_iff_ne.mpr h0
    have ns2 : (a0.toList != ([] : List UInt8)) = true := bne_iff_ne.mpr h0
    have kb := fun W => print_bytes (P := Tryz.prog) 9 164 5 Tryz.underlying9 Tryz.underlying164 Tryz.underlying5 a0 W
    have HSZ := Aside0.mk (show a0.size ≤ 9223372036854775807 by omega)
    have HA_ := Aside0.mk ha
    clear h0 hs ha
    go_enter Tryz.func121, Tryz.ntmps121
    go_wp2_with ((go_at_call 154; refine (slices_ContainsFunc_byte_byte.calls_str a0 HSZ.out _ (grownCap_ge _ _ _ _) true _ HA_.out).mono ?_; rintro e w1_ ⟨rfl, hb⟩))
    go_ret2
    exact ⟨_, rfl, (by exact Kd.V_nil _ _ _ _ _), hb⟩
   ·rw [if_neg ha] at h
    exact nat_Parse.calls_g k a0 r1 r2 w h (by omega) h0 (by simpa using ha)
 ·rw [if_neg hs] at h
  cases h
end Go.Proofs.YtaclkccgjpjdjaaGreat.N
