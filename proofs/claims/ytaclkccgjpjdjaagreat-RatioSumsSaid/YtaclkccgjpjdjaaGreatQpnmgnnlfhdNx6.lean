import Derived.Test.YtaclkccgjpjdjaaGreatQfaheplbobdNx0
import Derived.Test.YtaclkccgjpjdjaaGreatQgfcnglnngnM
namespace Go.Proofs.YtaclkccgjpjdjaaGreat.N
open Go.RowKit Go.Proofs.YtaclkccgjpjdjaaGreatW.PrintWords Go.Proofs.YtaclkccgjpjdjaaGreatW.PrintLast Go.Proofs.YtaclkccgjpjdjaaGreatW.PrintMore
attribute [local go_sem] max2_int min2_int max_two min_two max_three min_three max_four min_four   -- for this text's walks alone
set_option linter.unusedVariables false
set_option linter.unusedSimpArgs false
mutual
def nat_take.l0 : Nat → List Int → List Int → Int → Int → Int → Int → Int → Int → Option (Int × List Int)
 | 0, _, _, _, _, _, _, _, _ => none
 | k + 1, x0, x1, x2, x3, x9, x10, x16, x17 => if x17 < x16 then (if x17 < (x1.length : Int) then (if 0 ≤ x17 then (if 0 ≤ (wrap64 (x2 + x17)) then (if (wrap64 (x2 + x17)) < (x0.length : Int) then (nat_take.l0 k (x0.set ((wrap64 (x2 + x17)) : Int).toNat ((IntKind.u64.wrap ((IntKind.u64.wrap ((IntKind.u64.wrap (rd x0 (wrap64 (x2 + x17)))) - (Go.bits .and .u64 (IntKind.u64.wrap (x9 + (IntKind.u64.wrap (x3 * (IntKind.u64.wrap (rd x1 x17)))))) 4294967295))) - x10)) % 4294967296)) x1 x2 x3 ((IntKind.u64.wrap (x9 + (IntKind.u64.wrap (x3 * (IntKind.u64.wrap (rd x1 x17)))))) / 4294967296) ((IntKind.u64.wrap ((IntKind.u64.wrap ((IntKind.u64.wrap (rd x0 (wrap64 (x2 + x17)))) - (Go.bits .and .u64 (IntKind.u64.wrap (x9 + (IntKind.u64.wrap (x3 * (IntKind.u64.wrap (rd x1 x17)))))) 4294967295))) - x10)) / 9223372036854775808) x16 (wrap64 (x17 + 1))) else (none)) else (none)) else (none)) else (if 0 ≤ (wrap64 (x2 + x17)) then (if (wrap64 (x2 + x17)) < (x0.length : Int) then (nat_take.l0 k (x0.set ((wrap64 (x2 + x17)) : Int).toNat ((IntKind.u64.wrap ((IntKind.u64.wrap ((IntKind.u64.wrap (rd x0 (wrap64 (x2 + x17)))) - (Go.bits .and .u64 x9 4294967295))) - x10)) % 4294967296)) x1 x2 x3 (x9 / 4294967296) ((IntKind.u64.wrap ((IntKind.u64.wrap ((IntKind.u64.wrap (rd x0 (wrap64 (x2 + x17)))) - (Go.bits .and .u64 x9 4294967295))) - x10)) / 9223372036854775808) x16 (wrap64 (x17 + 1))) else (none)) else (none))) else (if x10 = 0 then (some ((x3) % 4294967296, x0)) else (nat_take.l1 k x0 x1 x2 x3 0 (wrap64 ((x1.length : Int) + 1)) 0))
def nat_take.l1 : Nat → List Int → List Int → Int → Int → Int → Int → Int → Option (Int × List Int)
 | 0, _, _, _, _, _, _, _ => none
 | k + 1, x0, x1, x2, x3, x9, x63, x64 => if x64 < x63 then (if 0 ≤ (wrap64 (x2 + x64)) then (if (wrap64 (x2 + x64)) < (x0.length : Int) then (if x64 < (x1.length : Int) then (if 0 ≤ x64 then (nat_take.l1 k (x0.set ((wrap64 (x2 + x64)) : Int).toNat ((IntKind.u64.wrap ((IntKind.u64.wrap (x9 + (IntKind.u64.wrap (rd x0 (wrap64 (x2 + x64)))))) + (IntKind.u64.wrap (rd x1 x64)))) % 4294967296)) x1 x2 x3 ((IntKind.u64.wrap ((IntKind.u64.wrap (x9 + (IntKind.u64.wrap (rd x0 (wrap64 (x2 + x64)))))) + (IntKind.u64.wrap (rd x1 x64)))) / 4294967296) x63 (wrap64 (x64 + 1))) else (none)) else (nat_take.l1 k (x0.set ((wrap64 (x2 + x64)) : Int).toNat ((IntKind.u64.wrap (x9 + (IntKind.u64.wrap (rd x0 (wrap64 (x2 + x64)))))) % 4294967296)) x1 x2 x3 ((IntKind.u64.wrap (x9 + (IntKind.u64.wrap (rd x0 (wrap64 (x2 + x64)))))) / 4294967296) x63 (wrap64 (x64 + 1)))) else (none)) else (none)) else (some ((IntKind.u64.wrap (x3 - 1)) % 4294967296, x0))
end
def nat_take.f (k : Nat) (l0 : List Int) (l1 : List Int) (a2 : Int) (a3 : Int) : Option (Int × List Int) := nat_take.l0 k l0 l1 a2 a3 0 0 (wrap64 ((l1.length : Int) + 1)) 0
set_option maxHeartbeats 8000000 in
set_option maxRecDepth 100000 in
theorem nat_take.calls (k : Nat) (P0_ : Nat → Prop) (u9000_ : Value) (l0 : List Int) (A1 : Option Addr) (c1 : Nat) (l1 : List Int) (a2 : Int) (a3 : Int) (r1 : Int) (r2 : List Int) (w0 w : World) (hB : Below w0.heap.size w0 w) (ho0 : Kd.R (Kd.int .u32) 89 w w0.heap.size P0_ u9000_ l0) (hr1 : ∀ W_, Kept w W_ (fun k_ => P0_ k_) → Kd.C (Kd.int .u32) W_ A1 l1.length l1) (hc1 : l1.length ≤ c1) (h : nat_take.f k l0 l1 a2 a3 = some (r1, r2)) :
  Calls Tryz.prog 144 #[u9000_, .slice A1 l1.length c1, .int .i64 a2, .int .u64 a3] w fun e w' => e = .returned (.int .u32 r1) ∧ Kd.R (Kd.int .u32) 89 w' w0.heap.size (fun k_ => (P0_ k_ ∨ w.heap.size ≤ k_)) u9000_ r2 ∧ Below w0.heap.size w0 w' ∧ Kept w w' (fun k_ => P0_ k_) := by
 have HO0 := Aside0.mk (show Kd.R (Kd.int .u32) 89 w w0.heap.size (fun k_ => (P0_ k_ ∨ w.heap.size ≤ k_)) u9000_ l0 from Kd.R_mono ho0 (fun k_ hk => (.inl hk)))
 have HR1 := Aside0.mk hr1
 have HC1 := Aside0.mk hc1
 clear hr1 hc1
 have HK := Aside0.mk (Kept.refl w (fun k_ => P0_ k_))
 have HW0 := Aside0.mk hB.size
 have HB := Aside0.mk hB
 clear hB
 have H : (nat_take.l0 k l0 l1 a2 a3 0 0 (wrap64 ((l1.length : Int) + 1)) 0) = some (r1, r2) := h
 clear h
 have H' := Aside0.mk H
 clear H
 go_enter Tryz.func144, Tryz.ntmps144
 go_wp2
 go_loopg [9, 10, 17] k (fun kq v9 v10 v17 w' => ∃ (x0_1 : List Int) (x9_1 : Int) (x10_1 : Int) (x17_1 : Int), v9 = .int .u64 x9_1 ∧ v10 = .int .u64 x10_1 ∧ v17 = .int .i64 x17_1 ∧ Aside0 (nat_take.l0 kq x0_1 l1 a2 a3 x9_1 x10_1 (wrap64 ((l1.length : Int) + 1)) x17_1 = some (r1, r2)) ∧ Aside0 (kq ≤ k) ∧ Aside0 (Kd.R (Kd.int .u32) 89 w' w0.heap.size (fun k_ => (P0_ k_ ∨ w.heap.size ≤ k_)) u9000_ x0_1) ∧ Aside0 (Kept w w' (fun k_ => P0_ k_)) ∧ Aside0 (Below w0.heap.size w0 w'))
 case atStart => exact ⟨(l0), (0), (0), (0), (by first | rfl | (simp; done) | (simp [*]; done)), (by first | rfl | (simp; done) | (simp [*]; done)), (by first | rfl | (simp; done) | (simp [*]; done)), H', ⟨Nat.le_refl _⟩, ⟨by (with_reducible repeat (first | apply Kd.R_alloc | apply Kd.R_drewN | apply Kd.R_drew)); exact HO0.out⟩, ⟨by repeat (first | (with_reducible first | exact HK.out | apply Kept.alloc | apply Kept.drewN | apply Kept.drew) | exact HK.out)⟩, ⟨Sq.bl HB⟩⟩
 case round =>
  clear H'
  try clear c1
  try clear p2
  obtain ⟨x0_1, x9_1, x10_1, x17_1, rfl, rfl, rfl, HA, HK1, HO_0, HK, HB⟩ := hrel
  cases gk with
  | zero => exact absurd HA.out (by simp [nat_take.l0])
  | succ k1 =>
   have H := HA.out
   clear HA
   simp only [nat_take.l0] at H
   by_cases c5 : x17_1 < (wrap64 ((l1.length : Int) + 1))
   ·rw [if_pos c5] at H
    have c5b0 : decide (x17_1 < (wrap64 ((l1.length : Int) + 1))) = true := decide_eq_true c5
    clear c5
    by_cases c6 : x17_1 < (l1.length : Int)
    ·rw [if_pos c6] at H
     have c6b0 : decide (x17_1 < (l1.length : Int)) = true := decide_eq_true c6
     clear c6
     replace H := Sq.ifs H
     obtain ⟨c7, H⟩ := H
     have c7b0 : decide (0 ≤ x17_1) = true := decide_eq_true c7
     clear c7
     obtain ⟨ji8, hji8⟩ : ∃ j_ : Int, (wrap64 (a2 + x17_1)) = j_ := ⟨_, rfl⟩
     (first | rw [hji8] at H | simp only [hji8] at H)
     have hji8w : (IntKind.i64.wrap (a2 + x17_1)) = ji8 := (i64_w _).trans hji8
     replace H := Sq.ifs H
     obtain ⟨c9, H⟩ := H
     have c9b0 : decide (0 ≤ (ji8)) = true := decide_eq_true c9
     clear c9
     replace H := Sq.ifs H
     obtain ⟨c10, H⟩ := H
     have c10b0 : decide ((ji8) < (x0_1.length : Int)) = true := decide_eq_true c10
     clear c10
     obtain ⟨y376, hy376⟩ : ∃ y_ : List Int, y_ = (x0_1.set ((ji8) : Int).toNat ((IntKind.u64.wrap ((IntKind.u64.wrap ((IntKind.u64.wrap (rd x0_1 (ji8))) - (Go.bits .and .u64 (IntKind.u64.wrap (x9_1 + (IntKind.u64.wrap (a3 * (IntKind.u64.wrap (rd l1 x17_1)))))) 4294967295))) - x10_1)) % 4294967296)) := ⟨_, rfl⟩
     (first | (replace H := Sq.ny hy376 H; (try dsimp -simprocs only at H)) | rw [← hy376] at H | skip)
     have Ny376 := Aside0.mk hy376
     clear hy376
     have H' := Aside0.mk H
     clear H
     have p374 : 0 ≤ (x17_1 : Int) := of_decide_eq_true (by first | (with_reducible assumption) | assumption)
     have q374 : x17_1 < (l1.length : Int) := of_decide_eq_true (by first | (with_reducible assumption) | assumption)
     obtain ⟨ad374, e374, hx374_0⟩ := Kd.at_int (Kd.C_kept_now HR1.out HK.out) x17_1 p374 q374
     cases e374
     replace p374 := eq_true p374
     replace q374 := eq_true q374
     obtain ⟨Ao12, co12, eo12⟩ := Kd.R_slice HO_0.out
     subst eo12
     have p375 : 0 ≤ ((ji8) : Int) := of_decide_eq_true (by first | (with_reducible assumption) | assumption)
     have q375 : (ji8) < (x0_1.length : Int) := of_decide_eq_true (by first | (with_reducible assumption) | assumption)
     obtain ⟨ad375, e375, hx375_0⟩ := Kd.at_int (Kd.R_reads' HO_0.out).2.2 (ji8) p375 q375
     cases e375
     replace p375 := eq_true p375
     replace q375 := eq_true q375
     have p11 : 0 ≤ ((ji8) : Int) := of_decide_eq_true (by first | (with_reducible assumption) | assumption)
     have q11 : ((ji8) : Int) < ((x0_1.length : Int) : Int) := of_decide_eq_true (by first | (with_reducible assumption) | assumption)
     obtain ⟨go11, co11, eo11, gb11, gl11, cl11, HG11⟩ := Kd.R_form HO_0.out (by omega)
     (first | cases eo11 | (injection eo11 with ea_ en_ ec_; (first | subst ea_ | (injection ea_ with ea_; subst ea_)); subst ec_; clear en_))
     have GB11 := Aside0.mk gb11
     have GG11 := Aside0.mk HG11
     clear gb11 gl11 HG11
     have HMgo11 := Aside0.mk (show (P0_ go11 ∨ w.heap.size ≤ go11) from (HO_0.out.1 _ rfl))
     (first | simp only [add_plain] at hx375_0 | skip)
     obtain ⟨hx11_0, hf11_0⟩ := Kd.R_celln 0 HO_0.out ((ji8) : Int) p11 q11
     replace p11 := eq_true p11
     replace q11 := eq_true q11
     have HP13 := Kd.R_putg HO_0.out ((ji8) : Int) ((IntKind.u64.wrap ((IntKind.u64.wrap ((IntKind.u64.wrap (rd x0_1 (ji8))) - (Go.bits .and .u64 (IntKind.u64.wrap (x9_1 + (IntKind.u64.wrap (a3 * (IntKind.u64.wrap (rd l1 x17_1)))))) 4294967295))) - x10_1)) % 4294967296)
     go_wp2_with (first | ((with_reducible refine gate_store (t := 89) (p := 51) rfl ?_); refine store_event (t := 89) (p := 51) (v := ?vo_w14) (w1 := (wr.setCell ⟨go11, ((ji8) : Int).toNat, none⟩ (.int .u32 ((IntKind.u64.wrap ((IntKind.u64.wrap ((IntKind.u64.wrap (rd x0_1 (ji8))) - (Go.bits .and .u64 (IntKind.u64.wrap (x9_1 + (IntKind.u64.wrap (a3 * (IntKind.u64.wrap (rd l1 x17_1)))))) 4294967295))) - x10_1)) % 4294967296)))) ?hg ?ho ?hn ?hr ?_; (case ho => rfl); (case hg => rfl); (case hn => rfl); (case hr => first | (go_simp; done) | (go_simp; rfl)); intro w14 hw; have hg : wr.grownBy w14 (some go11) := (by rw [hw]; exact HP13.2); have hp_ : Kd.R (Kd.int .u32) 89 w14 w0.heap.size (fun k_ => (P0_ k_ ∨ w.heap.size ≤ k_)) (.slice (some ⟨go11, 0, none⟩) x0_1.length co12) y376 := (by rw [hw, Ny376.out]; exact HP13.1); clear HP13; replace HB := Aside0.mk ((by rw [hw]; exact below_set (HB.out) GB11.out : Below w0.heap.size w0 w14)); replace HK := Aside0.mk (Kept.of_grown (S := (fun k_ => P0_ k_)) hg (by repeat (first | (with_reducible first | exact HK.out | apply Kept.alloc | apply Kept.drewN | apply Kept.drew) | exact HK.out)) (fun k_ e_ => (HO_0.out.1 k_ e_))); replace HO_0 := Aside0.mk (hp_); clear hg hw hp_))
     go_roundg k1
     case measure => have := HK1.out; omega
     case rel => exact ⟨(y376), ((IntKind.u64.wrap (x9_1 + (IntKind.u64.wrap (a3 * (IntKind.u64.wrap (rd l1 x17_1)))))) / 4294967296), ((IntKind.u64.wrap ((IntKind.u64.wrap ((IntKind.u64.wrap (rd x0_1 (ji8))) - (Go.bits .and .u64 (IntKind.u64.wrap (x9_1 + (IntKind.u64.wrap (a3 * (IntKind.u64.wrap (rd l1 x17_1)))))) 4294967295))) - x10_1)) / 9223372036854775808), (wrap64 (x17_1 + 1)), (by first | rfl | (simp; done) | (simp [*]; done)), (by first | rfl | (simp; done) | (simp only [← hji8] <;> (first | rfl | simp)) | (simp [*]; done)), (by first | rfl | (simp; done) | (simp [*]; done)), H', ⟨by have := HK1.out; omega⟩, ⟨by (with_reducible repeat (first | apply Kd.R_alloc | apply Kd.R_drewN | apply Kd.R_drew)); exact HO_0.out⟩, ⟨by repeat (first | (with_reducible first | exact HK.out | apply Kept.alloc | apply Kept.drewN | apply Kept.drew) | exact HK.out)⟩, ⟨Sq.bl HB⟩⟩
    ·rw [if_neg c6] at H
     have c6b0 : decide (x17_1 < (l1.length : Int)) = false := decide_eq_false c6
     clear c6
     obtain ⟨ji15, hji15⟩ : ∃ j_ : Int, (wrap64 (a2 + x17_1)) = j_ := ⟨_, rfl⟩
     (first | rw [hji15] at H | simp only [hji15] at H)
     have hji15w : (IntKind.i64.wrap (a2 + x17_1)) = ji15 := (i64_w _).trans hji15
     replace H := Sq.ifs H
     obtain ⟨c16, H⟩ := H
     have c16b0 : decide (0 ≤ (ji15)) = true := decide_eq_true c16
     clear c16
     replace H := Sq.ifs H
     obtain ⟨c17, H⟩ := H
     have c17b0 : decide ((ji15) < (x0_1.length : Int)) = true := decide_eq_true c17
     clear c17
     obtain ⟨y378, hy378⟩ : ∃ y_ : List Int, y_ = (x0_1.set ((ji15) : Int).toNat ((IntKind.u64.wrap ((IntKind.u64.wrap ((IntKind.u64.wrap (rd x0_1 (ji15))) - (Go.bits .and .u64 x9_1 4294967295))) - x10_1)) % 4294967296)) := ⟨_, rfl⟩
     (first | (replace H := Sq.ny hy378 H; (try dsimp -simprocs only at H)) | rw [← hy378] at H | skip)
     have Ny378 := Aside0.mk hy378
     clear hy378
     have H' := Aside0.mk H
     clear H
     obtain ⟨Ao19, co19, eo19⟩ := Kd.R_slice HO_0.out
     subst eo19
     have p377 : 0 ≤ ((ji15) : Int) := of_decide_eq_true (by first | (with_reducible assumption) | assumption)
     have q377 : (ji15) < (x0_1.length : Int) := of_decide_eq_true (by first | (with_reducible assumption) | assumption)
     obtain ⟨ad377, e377, hx377_0⟩ := Kd.at_int (Kd.R_reads' HO_0.out).2.2 (ji15) p377 q377
     cases e377
     replace p377 := eq_true p377
     replace q377 := eq_true q377
     have p18 : 0 ≤ ((ji15) : Int) := of_decide_eq_true (by first | (with_reducible assumption) | assumption)
     have q18 : ((ji15) : Int) < ((x0_1.length : Int) : Int) := of_decide_eq_true (by first | (with_reducible assumption) | assumption)
     obtain ⟨go18, co18, eo18, gb18, gl18, cl18, HG18⟩ := Kd.R_form HO_0.out (by omega)
     (first | cases eo18 | (injection eo18 with ea_ en_ ec_; (first | subst ea_ | (injection ea_ with ea_; subst ea_)); subst ec_; clear en_))
     have GB18 := Aside0.mk gb18
     have GG18 := Aside0.mk HG18
     clear gb18 gl18 HG18
     have HMgo18 := Aside0.mk (show (P0_ go18 ∨ w.heap.size ≤ go18) from (HO_0.out.1 _ rfl))
     (first | simp only [add_plain] at hx377_0 | skip)
     obtain ⟨hx18_0, hf18_0⟩ := Kd.R_celln 0 HO_0.out ((ji15) : Int) p18 q18
     replace p18 := eq_true p18
     replace q18 := eq_true q18
     have HP20 := Kd.R_putg HO_0.out ((ji15) : Int) ((IntKind.u64.wrap ((IntKind.u64.wrap ((IntKind.u64.wrap (rd x0_1 (ji15))) - (Go.bits .and .u64 x9_1 4294967295))) - x10_1)) % 4294967296)
     go_wp2_with (first | ((with_reducible refine gate_store (t := 89) (p := 51) rfl ?_); refine store_event (t := 89) (p := 51) (v := ?vo_w21) (w1 := (wr.setCell ⟨go18, ((ji15) : Int).toNat, none⟩ (.int .u32 ((IntKind.u64.wrap ((IntKind.u64.wrap ((IntKind.u64.wrap (rd x0_1 (ji15))) - (Go.bits .and .u64 x9_1 4294967295))) - x10_1)) % 4294967296)))) ?hg ?ho ?hn ?hr ?_; (case ho => rfl); (case hg => rfl); (case hn => rfl); (case hr => first | (go_simp; done) | (go_simp; rfl)); intro w21 hw; have hg : wr.grownBy w21 (some go18) := (by rw [hw]; exact HP20.2); have hp_ : Kd.R (Kd.int .u32) 89 w21 w0.heap.size (fun k_ => (P0_ k_ ∨ w.heap.size ≤ k_)) (.slice (some ⟨go18, 0, none⟩) x0_1.length co19) y378 := (by rw [hw, Ny378.out]; exact HP20.1); clear HP20; replace HB := Aside0.mk ((by rw [hw]; exact below_set (HB.out) GB18.out : Below w0.heap.size w0 w21)); replace HK := Aside0.mk (Kept.of_grown (S := (fun k_ => P0_ k_)) hg (by repeat (first | (with_reducible first | exact HK.out | apply Kept.alloc | apply Kept.drewN | apply Kept.drew) | exact HK.out)) (fun k_ e_ => (HO_0.out.1 k_ e_))); replace HO_0 := Aside0.mk (hp_); clear hg hw hp_))
     go_roundg k1
     case measure => have := HK1.out; omega
     case rel => exact ⟨(y378), (x9_1 / 4294967296), ((IntKind.u64.wrap ((IntKind.u64.wrap ((IntKind.u64.wrap (rd x0_1 (ji15))) - (Go.bits .and .u64 x9_1 4294967295))) - x10_1)) / 9223372036854775808), (wrap64 (x17_1 + 1)), (by first | rfl | (simp; done) | (simp [*]; done)), (by first | rfl | (simp; done) | (simp only [← hji15] <;> (first | rfl | simp)) | (simp [*]; done)), (by first | rfl | (simp; done) | (simp [*]; done)), H', ⟨by have := HK1.out; omega⟩, ⟨by (with_reducible repeat (first | apply Kd.R_alloc | apply Kd.R_drewN | apply Kd.R_drew)); exact HO_0.out⟩, ⟨by repeat (first | (with_reducible first | exact HK.out | apply Kept.alloc | apply Kept.drewN | apply Kept.drew) | exact HK.out)⟩, ⟨Sq.bl HB⟩⟩
   ·rw [if_neg c5] at H
    have c5b0 : decide (x17_1 < (wrap64 ((l1.length : Int) + 1))) = false := decide_eq_false c5
    clear c5
    by_cases c22 : x10_1 = 0
    ·rw [if_pos c22] at H
     have c22b0 : (x10_1 == 0) = true := beq_iff_eq.mpr c22
     have c22b1 : (x10_1 != 0) = false := bne_eq_false_iff_eq.mpr c22
     clear c22
     simp only [Option.some.injEq, Prod.mk.injEq] at H
     obtain ⟨rfl, rfl⟩ := H
     go_wp2
     go_ret
     exact ⟨by first | rfl | (simp [errW_none, errW_some] <;> rfl) | (simp [*, errW_none, errW_some] <;> rfl), by (with_reducible repeat (first | apply Kd.R_alloc | apply Kd.R_drewN | apply Kd.R_drew)); exact HO_0.out, Sq.bl HB, by repeat (first | (with_reducible first | exact HK.out | apply Kept.alloc | apply Kept.drewN | apply Kept.drew) | exact HK.out)⟩
    ·rw [if_neg c22] at H
     have c22b0 : (x10_1 == 0) = false := beq_eq_false_iff_ne.mpr c22
     have c22b1 : (x10_1 != 0) = true := bne_iff_ne.mpr c22
     have H' := Aside0.mk H
     clear H
     go_wp2
     go_loopg [9, 64] k1 (fun kq v9 v64 w' => ∃ (x0_2 : List Int) (x9_2 : Int) (x64_2 : Int), v9 = .int .u64 x9_2 ∧ v64 = .int .i64 x64_2 ∧ Aside0 (nat_take.l1 kq x0_2 l1 a2 a3 x9_2 (wrap64 ((l1.length : Int) + 1)) x64_2 = some (r1, r2)) ∧ Aside0 (kq ≤ k1) ∧ Aside0 (Kd.R (Kd.int .u32) 89 w' w0.heap.size (fun k_ => (P0_ k_ ∨ w.heap.size ≤ k_)) u9000_ x0_2) ∧ Aside0 (Kept w w' (fun k_ => P0_ k_)) ∧ Aside0 (Below w0.heap.size w0 w'))
     case atStart => exact ⟨(x0_1), (0), (0), (by first | rfl | (simp; done) | (simp [*]; done)), (by first | rfl | (simp; done) | (simp [*]; done)), H', ⟨Nat.le_refl _⟩, ⟨by (with_reducible repeat (first | apply Kd.R_alloc | apply Kd.R_drewN | apply Kd.R_drew)); exact HO_0.out⟩, ⟨by repeat (first | (with_reducible first | exact HK.out | apply Kept.alloc | apply Kept.drewN | apply Kept.drew) | exact HK.out)⟩, ⟨Sq.bl HB⟩⟩
     case round =>
      clear H'
      try clear c1
      try clear p1
      try clear q1
      try clear hx1
      try clear c2
      try clear p2
      try clear p3
      try clear q3
      try clear hx3
      try clear c5
      try clear c5b0
      try clear c6
      try clear c6b0
      try clear p6
      try clear c7
      try clear c7b0
      try clear c9
      try clear c9b0
      try clear c10
      try clear c10b0
      try clear p11
      try clear q11
      try clear hx11
      try clear hf11
      try clear c14
      try clear c16
      try clear c16b0
      try clear c17
      try clear c17b0
      try clear p18
      try clear q18
      try clear hx18
      try clear hf18
      try clear c22
      try clear c22b0
      try clear c22b1
      try clear hx11_0
      try clear hx18_0
      try clear hx374_0
      try clear hx375_0
      try clear hx377_0
      try clear p11
      try clear p18
      try clear p2
      try clear p374
      try clear p375
      try clear p377
      try clear q11
      try clear q18
      try clear q374
      try clear q375
      try clear q377
      obtain ⟨x0_2, x9_2, x64_2, rfl, rfl, HA, HK2, HO_0, HK, HB⟩ := hrel
      cases gk with
      | zero => exact absurd HA.out (by simp [nat_take.l1])
      | succ k2 =>
       have H := HA.out
       clear HA
       simp only [nat_take.l1] at H
       by_cases c23 : x64_2 < (wrap64 ((l1.length : Int) + 1))
       ·rw [if_pos c23] at H
        have c23b0 : decide (x64_2 < (wrap64 ((l1.length : Int) + 1))) = true := decide_eq_true c23
        clear c23
        obtain ⟨ji24, hji24⟩ : ∃ j_ : Int, (wrap64 (a2 + x64_2)) = j_ := ⟨_, rfl⟩
        (first | rw [hji24] at H | simp only [hji24] at H)
        have hji24w : (IntKind.i64.wrap (a2 + x64_2)) = ji24 := (i64_w _).trans hji24
        replace H := Sq.ifs H
        obtain ⟨c25, H⟩ := H
        have c25b0 : decide (0 ≤ (ji24)) = true := decide_eq_true c25
        clear c25
        replace H := Sq.ifs H
        obtain ⟨c26, H⟩ := H
        have c26b0 : decide ((ji24) < (x0_2.length : Int)) = true := decide_eq_true c26
        clear c26
        by_cases c27 : x64_2 < (l1.length : Int)
        ·rw [if_pos c27] at H
         have c27b0 : decide (x64_2 < (l1.length : Int)) = true := decide_eq_true c27
         clear c27
         replace H := Sq.ifs H
         obtain ⟨c28, H⟩ := H
         have c28b0 : decide (0 ≤ x64_2) = true := decide_eq_true c28
         clear c28
         obtain ⟨y381, hy381⟩ : ∃ y_ : List Int, y_ = (x0_2.set ((ji24) : Int).toNat ((IntKind.u64.wrap ((IntKind.u64.wrap (x9_2 + (IntKind.u64.wrap (rd x0_2 (ji24))))) + (IntKind.u64.wrap (rd l1 x64_2)))) % 4294967296)) := ⟨_, rfl⟩
         (first | (replace H := Sq.ny hy381 H; (try dsimp -simprocs only at H)) | rw [← hy381] at H | skip)
         have Ny381 := Aside0.mk hy381
         clear hy381
         have H' := Aside0.mk H
         clear H
         obtain ⟨Ao30, co30, eo30⟩ := Kd.R_slice HO_0.out
         subst eo30
         have p379 : 0 ≤ ((ji24) : Int) := of_decide_eq_true (by first | (with_reducible assumption) | assumption)
         have q379 : (ji24) < (x0_2.length : Int) := of_decide_eq_true (by first | (with_reducible assumption) | assumption)
         obtain ⟨ad379, e379, hx379_0⟩ := Kd.at_int (Kd.R_reads' HO_0.out).2.2 (ji24) p379 q379
         cases e379
         replace p379 := eq_true p379
         replace q379 := eq_true q379
         have p380 : 0 ≤ (x64_2 : Int) := of_decide_eq_true (by first | (with_reducible assumption) | assumption)
         have q380 : x64_2 < (l1.length : Int) := of_decide_eq_true (by first | (with_reducible assumption) | assumption)
         obtain ⟨ad380, e380, hx380_0⟩ := Kd.at_int (Kd.C_kept_now HR1.out HK.out) x64_2 p380 q380
         cases e380
         replace p380 := eq_true p380
         replace q380 := eq_true q380
         have p29 : 0 ≤ ((ji24) : Int) := of_decide_eq_true (by first | (with_reducible assumption) | assumption)
         have q29 : ((ji24) : Int) < ((x0_2.length : Int) : Int) := of_decide_eq_true (by first | (with_reducible assumption) | assumption)
         obtain ⟨go29, co29, eo29, gb29, gl29, cl29, HG29⟩ := Kd.R_form HO_0.out (by omega)
         (first | cases eo29 | (injection eo29 with ea_ en_ ec_; (first | subst ea_ | (injection ea_ with ea_; subst ea_)); subst ec_; clear en_))
         have GB29 := Aside0.mk gb29
         have GG29 := Aside0.mk HG29
         clear gb29 gl29 HG29
         have HMgo29 := Aside0.mk (show (P0_ go29 ∨ w.heap.size ≤ go29) from (HO_0.out.1 _ rfl))
         (first | simp only [add_plain] at hx379_0 | skip)
         obtain ⟨hx29_0, hf29_0⟩ := Kd.R_celln 0 HO_0.out ((ji24) : Int) p29 q29
         replace p29 := eq_true p29
         replace q29 := eq_true q29
         have HP31 := Kd.R_putg HO_0.out ((ji24) : Int) ((IntKind.u64.wrap ((IntKind.u64.wrap (x9_2 + (IntKind.u64.wrap (rd x0_2 (ji24))))) + (IntKind.u64.wrap (rd l1 x64_2)))) % 4294967296)
         go_wp2_with (first | ((with_reducible refine gate_store (t := 89) (p := 93) rfl ?_); refine store_event (t := 89) (p := 93) (v := ?vo_w32) (w1 := (wr.setCell ⟨go29, ((ji24) : Int).toNat, none⟩ (.int .u32 ((IntKind.u64.wrap ((IntKind.u64.wrap (x9_2 + (IntKind.u64.wrap (rd x0_2 (ji24))))) + (IntKind.u64.wrap (rd l1 x64_2)))) % 4294967296)))) ?hg ?ho ?hn ?hr ?_; (case ho => rfl); (case hg => rfl); (case hn => rfl); (case hr => first | (go_simp; done) | (go_simp; rfl)); intro w32 hw; have hg : wr.grownBy w32 (some go29) := (by rw [hw]; exact HP31.2); have hp_ : Kd.R (Kd.int .u32) 89 w32 w0.heap.size (fun k_ => (P0_ k_ ∨ w.heap.size ≤ k_)) (.slice (some ⟨go29, 0, none⟩) x0_2.length co30) y381 := (by rw [hw, Ny381.out]; exact HP31.1); clear HP31; replace HB := Aside0.mk ((by rw [hw]; exact below_set (HB.out) GB29.out : Below w0.heap.size w0 w32)); replace HK := Aside0.mk (Kept.of_grown (S := (fun k_ => P0_ k_)) hg (by repeat (first | (with_reducible first | exact HK.out | apply Kept.alloc | apply Kept.drewN | apply Kept.drew) | exact HK.out)) (fun k_ e_ => (HO_0.out.1 k_ e_))); replace HO_0 := Aside0.mk (hp_); clear hg hw hp_))
         go_roundg k2
         case measure => have := HK1.out; have := HK2.out; omega
         case rel => exact ⟨(y381), ((IntKind.u64.wrap ((IntKind.u64.wrap (x9_2 + (IntKind.u64.wrap (rd x0_2 (ji24))))) + (IntKind.u64.wrap (rd l1 x64_2)))) / 4294967296), (wrap64 (x64_2 + 1)), (by first | rfl | (simp; done) | (simp only [← hji24] <;> (first | rfl | simp)) | (simp [*]; done)), (by first | rfl | (simp; done) | (simp [*]; done)), H', ⟨by have := HK1.out; have := HK2.out; omega⟩, ⟨by (with_reducible repeat (first | apply Kd.R_alloc | apply Kd.R_drewN | apply Kd.R_drew)); exact HO_0.out⟩, ⟨by repeat (first | (with_reducible first | exact HK.out | apply Kept.alloc | apply Kept.drewN | apply Kept.drew) | exact HK.out)⟩, ⟨Sq.bl HB⟩⟩
        ·rw [if_neg c27] at H
         have c27b0 : decide (x64_2 < (l1.length : Int)) = false := decide_eq_false c27
         clear c27
         obtain ⟨y382, hy382⟩ : ∃ y_ : List Int, y_ = (x0_2.set ((ji24) : Int).toNat ((IntKind.u64.wrap (x9_2 + (IntKind.u64.wrap (rd x0_2 (ji24))))) % 4294967296)) := ⟨_, rfl⟩
         (first | (replace H := Sq.ny hy382 H; (try dsimp -simprocs only at H)) | rw [← hy382] at H | skip)
         have Ny382 := Aside0.mk hy382
         clear hy382
         have H' := Aside0.mk H
         clear H
         obtain ⟨Ao34, co34, eo34⟩ := Kd.R_slice HO_0.out
         subst eo34
         have p379 : 0 ≤ ((ji24) : Int) := of_decide_eq_true (by first | (with_reducible assumption) | assumption)
         have q379 : (ji24) < (x0_2.length : Int) := of_decide_eq_true (by first | (with_reducible assumption) | assumption)
         obtain ⟨ad379, e379, hx379_0⟩ := Kd.at_int (Kd.R_reads' HO_0.out).2.2 (ji24) p379 q379
         cases e379
         replace p379 := eq_true p379
         replace q379 := eq_true q379
         have p33 : 0 ≤ ((ji24) : Int) := of_decide_eq_true (by first | (with_reducible assumption) | assumption)
         have q33 : ((ji24) : Int) < ((x0_2.length : Int) : Int) := of_decide_eq_true (by first | (with_reducible assumption) | assumption)
         obtain ⟨go33, co33, eo33, gb33, gl33, cl33, HG33⟩ := Kd.R_form HO_0.out (by omega)
         (first | cases eo33 | (injection eo33 with ea_ en_ ec_; (first | subst ea_ | (injection ea_ with ea_; subst ea_)); subst ec_; clear en_))
         have GB33 := Aside0.mk gb33
         have GG33 := Aside0.mk HG33
         clear gb33 gl33 HG33
         have HMgo33 := Aside0.mk (show (P0_ go33 ∨ w.heap.size ≤ go33) from (HO_0.out.1 _ rfl))
         (first | simp only [add_plain] at hx379_0 | skip)
         obtain ⟨hx33_0, hf33_0⟩ := Kd.R_celln 0 HO_0.out ((ji24) : Int) p33 q33
         replace p33 := eq_true p33
         replace q33 := eq_true q33
         have HP35 := Kd.R_putg HO_0.out ((ji24) : Int) ((IntKind.u64.wrap (x9_2 + (IntKind.u64.wrap (rd x0_2 (ji24))))) % 4294967296)
         go_wp2_with (first | ((with_reducible refine gate_store (t := 89) (p := 93) rfl ?_); refine store_event (t := 89) (p := 93) (v := ?vo_w36) (w1 := (wr.setCell ⟨go33, ((ji24) : Int).toNat, none⟩ (.int .u32 ((IntKind.u64.wrap (x9_2 + (IntKind.u64.wrap (rd x0_2 (ji24))))) % 4294967296)))) ?hg ?ho ?hn ?hr ?_; (case ho => rfl); (case hg => rfl); (case hn => rfl); (case hr => first | (go_simp; done) | (go_simp; rfl)); intro w36 hw; have hg : wr.grownBy w36 (some go33) := (by rw [hw]; exact HP35.2); have hp_ : Kd.R (Kd.int .u32) 89 w36 w0.heap.size (fun k_ => (P0_ k_ ∨ w.heap.size ≤ k_)) (.slice (some ⟨go33, 0, none⟩) x0_2.length co34) y382 := (by rw [hw, Ny382.out]; exact HP35.1); clear HP35; replace HB := Aside0.mk ((by rw [hw]; exact below_set (HB.out) GB33.out : Below w0.heap.size w0 w36)); replace HK := Aside0.mk (Kept.of_grown (S := (fun k_ => P0_ k_)) hg (by repeat (first | (with_reducible first | exact HK.out | apply Kept.alloc | apply Kept.drewN | apply Kept.drew) | exact HK.out)) (fun k_ e_ => (HO_0.out.1 k_ e_))); replace HO_0 := Aside0.mk (hp_); clear hg hw hp_))
         go_roundg k2
         case measure => have := HK1.out; have := HK2.out; omega
         case rel => exact ⟨(y382), ((IntKind.u64.wrap (x9_2 + (IntKind.u64.wrap (rd x0_2 (ji24))))) / 4294967296), (wrap64 (x64_2 + 1)), (by first | rfl | (simp; done) | (simp only [← hji24] <;> (first | rfl | simp)) | (simp [*]; done)), (by first | rfl | (simp; done) | (simp [*]; done)), H', ⟨by have := HK1.out; have := HK2.out; omega⟩, ⟨by (with_reducible repeat (first | apply Kd.R_alloc | apply Kd.R_drewN | apply Kd.R_drew)); exact HO_0.out⟩, ⟨by repeat (first | (with_reducible first | exact HK.out | apply Kept.alloc | apply Kept.drewN | apply Kept.drew) | exact HK.out)⟩, ⟨Sq.bl HB⟩⟩
       ·rw [if_neg c23] at H
        have c23b0 : decide (x64_2 < (wrap64 ((l1.length : Int) + 1))) = false := decide_eq_false c23
        clear c23
        simp only [Option.some.injEq, Prod.mk.injEq] at H
        obtain ⟨rfl, rfl⟩ := H
        go_wp2
        go_ret
        exact ⟨by first | rfl | (simp [errW_none, errW_some] <;> rfl) | (simp [*, errW_none, errW_some] <;> rfl), by (with_reducible repeat (first | apply Kd.R_alloc | apply Kd.R_drewN | apply Kd.R_drew)); exact HO_0.out, Sq.bl HB, by repeat (first | (with_reducible first | exact HK.out | apply Kept.alloc | apply Kept.drewN | apply Kept.drew) | exact HK.out)⟩
mutual
def nat_guess.l0 : Nat → List Int → List Int → Int → Int → Int → Int → Option (Int)
 | 0, _, _, _, _, _, _ => none
 | k + 1, x0, x1, x2, x7, x9, x10 => if (x9 / 4294967296) = 0 then (if 0 ≤ (wrap64 (x7 - 2)) then (if (wrap64 (x7 - 2)) < (x1.length : Int) then (if 0 ≤ (wrap64 ((wrap64 (x2 + x7)) - 2)) then (if (wrap64 ((wrap64 (x2 + x7)) - 2)) < (x0.length : Int) then (nat_guess.j1 k x0 x1 x2 x7 x9 x10 (decide ((IntKind.u64.wrap (x9 * (IntKind.u64.wrap (rd x1 (wrap64 (x7 - 2)))))) > (Go.bits .or .u64 (IntKind.u64.wrap (x10 * 4294967296)) (IntKind.u64.wrap (rd x0 (wrap64 ((wrap64 (x2 + x7)) - 2)))))))) else (none)) else (none)) else (none)) else (none)) else (nat_guess.j1 k x0 x1 x2 x7 x9 x10 true)
def nat_guess.j1 : Nat → List Int → List Int → Int → Int → Int → Int → Bool → Option (Int)
 | 0, _, _, _, _, _, _, _ => none
 | k + 1, x0, x1, x2, x7, x9, x10, x70 => if x70 = true then (if 0 ≤ (wrap64 (x7 - 1)) then (if (wrap64 (x7 - 1)) < (x1.length : Int) then (if ((IntKind.u64.wrap (x10 + (IntKind.u64.wrap (rd x1 (wrap64 (x7 - 1)))))) / 4294967296) = 0 then (nat_guess.l0 k x0 x1 x2 x7 (IntKind.u64.wrap (x9 - 1)) (IntKind.u64.wrap (x10 + (IntKind.u64.wrap (rd x1 (wrap64 (x7 - 1))))))) else (some (IntKind.u64.wrap (x9 - 1)))) else (none)) else (none)) else (some x9)
end
def nat_guess.f (k : Nat) (l0 : List Int) (l1 : List Int) (a2 : Int) : Option (Int) := if 0 ≤ (wrap64 (a2 + (l1.length : Int))) then (if (wrap64 (a2 + (l1.length : Int))) < (l0.length : Int) then (if 0 ≤ (wrap64 ((wrap64 (a2 + (l1.length : Int))) - 1)) then (if (wrap64 ((wrap64 (a2 + (l1.length : Int))) - 1)) < (l0.length : Int) then (if 0 ≤ (wrap64 ((l1.length : Int) - 1)) then (if (wrap64 ((l1.length : Int) - 1)) < (l1.length : Int) then (if (IntKind.u64.wrap (rd l1 (wrap64 ((l1.length : Int) - 1)))) = 0 then (none) else (nat_guess.l0 k l0 l1 a2 (l1.length : Int) (IntKind.u64.wrap (Int.tdiv (Go.bits .or .u64 (IntKind.u64.wrap ((IntKind.u64.wrap (rd l0 (wrap64 (a2 + (l1.length : Int))))) * 4294967296)) (IntKind.u64.wrap (rd l0 (wrap64 ((wrap64 (a2 + (l1.length : Int))) - 1))))) (IntKind.u64.wrap (rd l1 (wrap64 ((l1.length : Int) - 1)))))) (Int.tmod (Go.bits .or .u64 (IntKind.u64.wrap ((IntKind.u64.wrap (rd l0 (wrap64 (a2 + (l1.length : Int))))) * 4294967296)) (IntKind.u64.wrap (rd l0 (wrap64 ((wrap64 (a2 + (l1.length : Int))) - 1))))) (IntKind.u64.wrap (rd l1 (wrap64 ((l1.length : Int) - 1))))))) else (none)) else (none)) else (none)) else (none)) else (none)) else (none)
set_option maxHeartbeats 8000000 in
set_option maxRecDepth 100000 in
theorem nat_guess.calls (k : Nat) (A0 : Option Addr) (c0 : Nat) (l0 : List Int) (A1 : Option Addr) (c1 : Nat) (l1 : List Int) (a2 : Int) (r : Int) (w : World) (hr0 : Kd.C (Kd.int .u32) w A0 l0.length l0) (hc0 : l0.length ≤ c0) (hr1 : Kd.C (Kd.int .u32) w A1 l1.length l1) (hc1 : l1.length ≤ c1) (h : nat_guess.f k l0 l1 a2 = some r) :
  Calls Tryz.prog 145 #[.slice A0 l0.length c0, .slice A1 l1.length c1, .int .i64 a2] w fun e w' => e = .returned (.int .u64 r) ∧ Drawn0 w w' := by
 have HR0 := Aside0.mk hr0
 have HC0 := Aside0.mk hc0
 clear hr0 hc0
 have HR1 := Aside0.mk hr1
 have HC1 := Aside0.mk hc1
 clear hr1 hc1
 have H : (if 0 ≤ (wrap64 (a2 + (l1.length : Int))) then (if (wrap64 (a2 + (l1.length : Int))) < (l0.length : Int) then (if 0 ≤ (wrap64 ((wrap64 (a2 + (l1.length : Int))) - 1)) then (if (wrap64 ((wrap64 (a2 + (l1.length : Int))) - 1)) < (l0.length : Int) then (if 0 ≤ (wrap64 ((l1.length : Int) - 1)) then (if (wrap64 ((l1.length : Int) - 1)) < (l1.length : Int) then (if (IntKind.u64.wrap (rd l1 (wrap64 ((l1.length : Int) - 1)))) = 0 then (none) else (nat_guess.l0 k l0 l1 a2 (l1.length : Int) (IntKind.u64.wrap (Int.tdiv (Go.bits .or .u64 (IntKind.u64.wrap ((IntKind.u64.wrap (rd l0 (wrap64 (a2 + (l1.length : Int))))) * 4294967296)) (IntKind.u64.wrap (rd l0 (wrap64 ((wrap64 (a2 + (l1.length : Int))) - 1))))) (IntKind.u64.wrap (rd l1 (wrap64 ((l1.length : Int) - 1)))))) (Int.tmod (Go.bits .or .u64 (IntKind.u64.wrap ((IntKind.u64.wrap (rd l0 (wrap64 (a2 + (l1.length : Int))))) * 4294967296)) (IntKind.u64.wrap (rd l0 (wrap64 ((wrap64 (a2 + (l1.length : Int))) - 1))))) (IntKind.u64.wrap (rd l1 (wrap64 ((l1.length : Int) - 1))))))) else (none)) else (none)) else (none)) else (none)) else (none)) else (none)) = some r := h
 clear h
 obtain ⟨ji4, hji4⟩ : ∃ j_ : Int, (wrap64 (a2 + (l1.length : Int))) = j_ := ⟨_, rfl⟩
 (first | rw [hji4] at H | simp only [hji4] at H)
 have hji4w : (IntKind.i64.wrap (a2 + (l1.length : Int))) = ji4 := (i64_w _).trans hji4
 replace H := Sq.ifs H
 obtain ⟨c5, H⟩ := H
 have c5b0 : decide (0 ≤ (ji4)) = true := decide_eq_true c5
 clear c5
 replace H := Sq.ifs H
 obtain ⟨c6, H⟩ := H
 have c6b0 : decide ((ji4) < (l0.length : Int)) = true := decide_eq_true c6
 clear c6
 obtain ⟨ji7, hji7⟩ : ∃ j_ : Int, (wrap64 ((ji4) - 1)) = j_ := ⟨_, rfl⟩
 (first | rw [hji7] at H | simp only [hji7] at H)
 have hji7w : (IntKind.i64.wrap ((ji4) - 1)) = ji7 := (i64_w _).trans hji7
 replace H := Sq.ifs H
 obtain ⟨c8, H⟩ := H
 have c8b0 : decide (0 ≤ (ji7)) = true := decide_eq_true c8
 clear c8
 replace H := Sq.ifs H
 obtain ⟨c9, H⟩ := H
 have c9b0 : decide ((ji7) < (l0.length : Int)) = true := decide_eq_true c9
 clear c9
 obtain ⟨ji10, hji10⟩ : ∃ j_ : Int, (wrap64 ((l1.length : Int) - 1)) = j_ := ⟨_, rfl⟩
 (first | rw [hji10] at H | simp only [hji10] at H)
 have hji10w : (IntKind.i64.wrap ((l1.length : Int) - 1)) = ji10 := (i64_w _).trans hji10
 replace H := Sq.ifs H
 obtain ⟨c11, H⟩ := H
 have c11b0 : decide (0 ≤ (ji10)) = true := decide_eq_true c11
 clear c11
 replace H := Sq.ifs H
 obtain ⟨c12, H⟩ := H
 have c12b0 : decide ((ji10) < (l1.length : Int)) = true := decide_eq_true c12
 clear c12
 replace H := Sq.ifn H
 obtain ⟨c13, H⟩ := H
 have c13b0 : ((IntKind.u64.wrap (rd l1 (ji10))) == 0) = false := beq_eq_false_iff_ne.mpr c13
 have c13b1 : ((IntKind.u64.wrap (rd l1 (ji10))) != 0) = true := bne_iff_ne.mpr c13
 have H' := Aside0.mk H
 clear H
 have p383 : 0 ≤ ((ji4) : Int) := of_decide_eq_true (by first | (with_reducible assumption) | assumption)
 have q383 : (ji4) < (l0.length : Int) := of_decide_eq_true (by first | (with_reducible assumption) | assumption)
 obtain ⟨ad383, e383, hx383_0⟩ := Kd.at_int HR0.out (ji4) p383 q383
 cases e383
 replace p383 := eq_true p383
 replace q383 := eq_true q383
 have p384 : 0 ≤ ((ji7) : Int) := of_decide_eq_true (by first | (with_reducible assumption) | assumption)
 have q384 : (ji7) < (l0.length : Int) := of_decide_eq_true (by first | (with_reducible assumption) | assumption)
 obtain ⟨ad384, e384, hx384_0⟩ := Kd.at_int HR0.out (ji7) p384 q384
 obtain rfl : ad383 = ad384 := (by injection e384)
 replace p384 := eq_true p384
 replace q384 := eq_true q384
 have p385 : 0 ≤ ((ji10) : Int) := of_decide_eq_true (by first | (with_reducible assumption) | assumption)
 have q385 : (ji10) < (l1.length : Int) := of_decide_eq_true (by first | (with_reducible assumption) | assumption)
 obtain ⟨ad385, e385, hx385_0⟩ := Kd.at_int HR1.out (ji10) p385 q385
 cases e385
 replace p385 := eq_true p385
 replace q385 := eq_true q385
 have p386 : 0 ≤ ((ji10) : Int) := of_decide_eq_true (by first | (with_reducible assumption) | assumption)
 have q386 : (ji10) < (l1.length : Int) := of_decide_eq_true (by first | (with_reducible assumption) | assumption)
 obtain ⟨ad386, e386, hx386_0⟩ := Kd.at_int HR1.out (ji10) p386 q386
 obtain rfl : ad385 = ad386 := (by injection e386)
 replace p386 := eq_true p386
 replace q386 := eq_true q386
 go_enter Tryz.func145, Tryz.ntmps145
 go_wp2
 repeat (go_quiet (fail); try go_wp2)
 go_loopg [9, 10] k (fun kq v9 v10 w' => ∃ (x9_1 : Int) (x10_1 : Int), v9 = .int .u64 x9_1 ∧ v10 = .int .u64 x10_1 ∧ Aside0 (nat_guess.l0 kq l0 l1 a2 (l1.length : Int) x9_1 x10_1 = some r) ∧ Aside0 (kq ≤ k) ∧ Drawn0 w w')
 case atStart => exact ⟨(IntKind.u64.wrap (Int.tdiv (Go.bits .or .u64 (IntKind.u64.wrap ((IntKind.u64.wrap (rd l0 (ji4))) * 4294967296)) (IntKind.u64.wrap (rd l0 (ji7)))) (IntKind.u64.wrap (rd l1 (ji10))))), (Int.tmod (Go.bits .or .u64 (IntKind.u64.wrap ((IntKind.u64.wrap (rd l0 (ji4))) * 4294967296)) (IntKind.u64.wrap (rd l0 (ji7)))) (IntKind.u64.wrap (rd l1 (ji10)))), (by first | rfl | (simp; done) | (simp only [← hji4, ← hji7, ← hji10] <;> (first | rfl | simp)) | (simp [*]; done)), (by first | rfl | (simp; done) | (simp only [← hji4, ← hji7, ← hji10] <;> (first | rfl | simp)) | (simp [*]; done)), H', ⟨Nat.le_refl _⟩, by repeat (first | exact Drawn0.refl _ | apply Drawn0.step)⟩
 case round =>
  clear H'
  try clear c1
  try clear p2
  try clear p3
  try clear q3
  try clear hx3
  try clear c5
  try clear c5b0
  try clear c6
  try clear c6b0
  try clear p6
  try clear c8
  try clear c8b0
  try clear c9
  try clear c9b0
  try clear c11
  try clear c11b0
  try clear c12
  try clear c12b0
  try clear c13
  try clear c13b0
  try clear c13b1
  try clear hx383_0
  try clear hx384_0
  try clear hx385_0
  try clear hx386_0
  try clear p383
  try clear p384
  try clear p385
  try clear p386
  try clear q383
  try clear q384
  try clear q385
  try clear q386
  obtain ⟨x9_1, x10_1, rfl, rfl, HA, HK1, ⟨m1, rfl⟩⟩ := hrel
  cases gk with
  | zero => exact absurd HA.out (by simp [nat_guess.l0])
  | succ k1 =>
   have H := HA.out
   clear HA
   simp only [nat_guess.l0] at H
   have HC14 := Aside0.mk H
   clear H
   go_upto_region 4 with (fail)
   repeat (go_quiet (fail); go_upto_region 4 with (fail))
   go_cut [70] (fun v70 wc => ∃ (kq : Nat) (x70_13 : Bool), v70 = .bool x70_13 ∧ Aside0 (nat_guess.j1 kq l0 l1 a2 (l1.length : Int) x9_1 x10_1 x70_13 = some r) ∧ Aside0 (kq ≤ k1) ∧ Drawn0 w wc)
   case first =>
    have H := HC14.out
    clear HC14
    by_cases c15 : (x9_1 / 4294967296) = 0
    ·rw [if_pos c15] at H
     have c15b0 : ((x9_1 / 4294967296) == 0) = true := beq_iff_eq.mpr c15
     have c15b1 : ((x9_1 / 4294967296) != 0) = false := bne_eq_false_iff_eq.mpr c15
     clear c15
     (first | rw [c15b0] | (simp only [i64_w, i32_w]; rw [c15b0]) | skip)
     obtain ⟨ji16, hji16⟩ : ∃ j_ : Int, (wrap64 ((l1.length : Int) - 2)) = j_ := ⟨_, rfl⟩
     (first | rw [hji16] at H | simp only [hji16] at H)
     have hji16w : (IntKind.i64.wrap ((l1.length : Int) - 2)) = ji16 := (i64_w _).trans hji16
     replace H := Sq.ifs H
     obtain ⟨c17, H⟩ := H
     have c17b0 : decide (0 ≤ (ji16)) = true := decide_eq_true c17
     clear c17
     replace H := Sq.ifs H
     obtain ⟨c18, H⟩ := H
     have c18b0 : decide ((ji16) < (l1.length : Int)) = true := decide_eq_true c18
     clear c18
     obtain ⟨ji19, hji19⟩ : ∃ j_ : Int, (wrap64 ((wrap64 (a2 + (l1.length : Int))) - 2)) = j_ := ⟨_, rfl⟩
     (first | rw [hji19] at H | simp only [hji19] at H)
     have hji19w : (IntKind.i64.wrap ((wrap64 (a2 + (l1.length : Int))) - 2)) = ji19 := (i64_w _).trans hji19
     try rw [hji4] at hji19 hji19w
     replace H := Sq.ifs H
     obtain ⟨c20, H⟩ := H
     have c20b0 : decide (0 ≤ (ji19)) = true := decide_eq_true c20
     clear c20
     replace H := Sq.ifs H
     obtain ⟨c21, H⟩ := H
     have c21b0 : decide ((ji19) < (l0.length : Int)) = true := decide_eq_true c21
     clear c21
     have H' := Aside0.mk H
     clear H
     have p387 : 0 ≤ ((ji16) : Int) := of_decide_eq_true (by first | (with_reducible assumption) | assumption)
     have q387 : (ji16) < (l1.length : Int) := of_decide_eq_true (by first | (with_reducible assumption) | assumption)
     obtain ⟨ad387, e387, hx387_0⟩ := Kd.at_int HR1.out (ji16) p387 q387
     obtain rfl : ad385 = ad387 := (by injection e387)
     replace p387 := eq_true p387
     replace q387 := eq_true q387
     have p388 : 0 ≤ ((ji19) : Int) := of_decide_eq_true (by first | (with_reducible assumption) | assumption)
     have q388 : (ji19) < (l0.length : Int) := of_decide_eq_true (by first | (with_reducible assumption) | assumption)
     obtain ⟨ad388, e388, hx388_0⟩ := Kd.at_int HR0.out (ji19) p388 q388
     obtain rfl : ad383 = ad388 := (by injection e388)
     replace p388 := eq_true p388
     replace q388 := eq_true q388
     go_wp2
     repeat (go_quiet (fail); try go_wp2)
     go_meet
     case rel => exact ⟨_, (decide ((IntKind.u64.wrap (x9_1 * (IntKind.u64.wrap (rd l1 (ji16))))) > (Go.bits .or .u64 (IntKind.u64.wrap (x10_1 * 4294967296)) (IntKind.u64.wrap (rd l0 (ji19)))))), (by first | rfl | (simp; done) | (simp only [← hji16, ← hji19] <;> (first | rfl | simp)) | (simp [*]; done)), H', ⟨by have := HK1.out; first | omega | exact Nat.le_refl _⟩, by repeat (first | exact Drawn0.refl _ | apply Drawn0.step)⟩
    ·rw [if_neg c15] at H
     have c15b0 : ((x9_1 / 4294967296) == 0) = false := beq_eq_false_iff_ne.mpr c15
     have c15b1 : ((x9_1 / 4294967296) != 0) = true := bne_iff_ne.mpr c15
     (first | rw [c15b0] | (simp only [i64_w, i32_w]; rw [c15b0]) | skip)
     have H' := Aside0.mk H
     clear H
     go_wp2
     repeat (go_quiet (fail); try go_wp2)
     go_meet
     case rel => exact ⟨_, (true), (by first | rfl | (simp; done) | (simp [*]; done)), H', ⟨by have := HK1.out; first | omega | exact Nat.le_refl _⟩, by repeat (first | exact Drawn0.refl _ | apply Drawn0.step)⟩
   case rest =>
    clear HC14
    try clear c1
    try clear c2
    try clear p2
    try clear p3
    try clear q3
    try clear hx3
    try clear c5
    try clear c5b0
    try clear c6
    try clear c6b0
    try clear p6
    try clear c8
    try clear c8b0
    try clear c9
    try clear c9b0
    try clear c11
    try clear c11b0
    try clear c12
    try clear c12b0
    try clear c13
    try clear c13b0
    try clear c13b1
    try clear c14
    try clear c15
    try clear c15b0
    try clear c15b1
    try clear c17
    try clear c17b0
    try clear c18
    try clear c18b0
    try clear c20
    try clear c20b0
    try clear c21
    try clear c21b0
    try clear hx383_0
    try clear hx384_0
    try clear hx385_0
    try clear hx386_0
    try clear hx387_0
    try clear hx388_0
    try clear p2
    try clear p3
    try clear p383
    try clear p384
    try clear p385
    try clear p386
    try clear p387
    try clear p388
    try clear p6
    try clear q3
    try clear q383
    try clear q384
    try clear q385
    try clear q386
    try clear q387
    try clear q388
    obtain ⟨kq, x70_13, rfl, HA, HJ13, ⟨mc13, rfl⟩⟩ := hcut
    cases kq with
    | zero => exact absurd HA.out (by simp [nat_guess.j1])
    | succ kj13 =>
     have H := HA.out
     clear HA
     simp only [nat_guess.j1] at H
     by_cases c22 : x70_13 = true
     ·subst c22
      have H1 : (if 0 ≤ (wrap64 ((l1.length : Int) - 1)) then (if (wrap64 ((l1.length : Int) - 1)) < (l1.length : Int) then (if ((IntKind.u64.wrap (x10_1 + (IntKind.u64.wrap (rd l1 (wrap64 ((l1.length : Int) - 1)))))) / 4294967296) = 0 then (nat_guess.l0 kj13 l0 l1 a2 (l1.length : Int) (IntKind.u64.wrap (x9_1 - 1)) (IntKind.u64.wrap (x10_1 + (IntKind.u64.wrap (rd l1 (wrap64 ((l1.length : Int) - 1))))))) else (some (IntKind.u64.wrap (x9_1 - 1)))) else (none)) else (none)) = some r := by rw [if_pos rfl] at H; exact H
      clear H
      have H := H1
      clear H1
      obtain ⟨ji23, hji23⟩ : ∃ j_ : Int, (wrap64 ((l1.length : Int) - 1)) = j_ := ⟨_, rfl⟩
      (first | rw [hji23] at H | simp only [hji23] at H)
      have hji23w : (IntKind.i64.wrap ((l1.length : Int) - 1)) = ji23 := (i64_w _).trans hji23
      try (obtain rfl : ji23 = ji10 := hji23.symm.trans hji10)
      replace H := Sq.ifs H
      obtain ⟨c24, H⟩ := H
      have c24b0 : decide (0 ≤ (ji23)) = true := decide_eq_true c24
      clear c24
      replace H := Sq.ifs H
      obtain ⟨c25, H⟩ := H
      have c25b0 : decide ((ji23) < (l1.length : Int)) = true := decide_eq_true c25
      clear c25
      by_cases c26 : ((IntKind.u64.wrap (x10_1 + (IntKind.u64.wrap (rd l1 (ji23))))) / 4294967296) = 0
      ·rw [if_pos c26] at H
       have c26b0 : (((IntKind.u64.wrap (x10_1 + (IntKind.u64.wrap (rd l1 (ji23))))) / 4294967296) == 0) = true := beq_iff_eq.mpr c26
       have c26b1 : (((IntKind.u64.wrap (x10_1 + (IntKind.u64.wrap (rd l1 (ji23))))) / 4294967296) != 0) = false := bne_eq_false_iff_eq.mpr c26
       clear c26
       have H' := Aside0.mk H
       clear H
       have p389 : 0 ≤ ((ji23) : Int) := of_decide_eq_true (by first | (with_reducible assumption) | assumption)
       have q389 : (ji23) < (l1.length : Int) := of_decide_eq_true (by first | (with_reducible assumption) | assumption)
       obtain ⟨ad389, e389, hx389_0⟩ := Kd.at_int HR1.out (ji23) p389 q389
       obtain rfl : ad385 = ad389 := (by injection e389)
       replace p389 := eq_true p389
       replace q389 := eq_true q389
       go_wp2
       repeat (go_quiet (fail); try go_wp2)
       go_roundg kj13
       case measure => have := HK1.out; have := HJ13.out; omega
       case rel => exact ⟨(IntKind.u64.wrap (x9_1 - 1)), (IntKind.u64.wrap (x10_1 + (IntKind.u64.wrap (rd l1 (ji23))))), (by first | rfl | (simp; done) | (simp [*]; done)), (by first | rfl | (simp; done) | (simp only [← hji23] <;> (first | rfl | simp)) | (simp [*]; done)), H', ⟨by have := HK1.out; have := HJ13.out; omega⟩, by repeat (first | exact Drawn0.refl _ | apply Drawn0.step)⟩
      ·rw [if_neg c26] at H
       have c26b0 : (((IntKind.u64.wrap (x10_1 + (IntKind.u64.wrap (rd l1 (ji23))))) / 4294967296) == 0) = false := beq_eq_false_iff_ne.mpr c26
       have c26b1 : (((IntKind.u64.wrap (x10_1 + (IntKind.u64.wrap (rd l1 (ji23))))) / 4294967296) != 0) = true := bne_iff_ne.mpr c26
       obtain rfl := Option.some.inj H
       have p389 : 0 ≤ ((ji23) : Int) := of_decide_eq_true (by first | (with_reducible assumption) | assumption)
       have q389 : (ji23) < (l1.length : Int) := of_decide_eq_true (by first | (with_reducible assumption) | assumption)
       obtain ⟨ad389, e389, hx389_0⟩ := Kd.at_int HR1.out (ji23) p389 q389
       obtain rfl : ad385 = ad389 := (by injection e389)
       replace p389 := eq_true p389
       replace q389 := eq_true q389
       go_wp2
       repeat (go_quiet (fail); try go_wp2)
       go_ret
       exact ⟨by first | rfl | (simp; done) | (simp only [← hji4, ← hji7, ← hji10, ← hji23] <;> (first | rfl | simp)) | (simp [*]; done), by repeat (first | exact Drawn0.refl _ | apply Drawn0.step)⟩
     ·replace c22 := Bool.eq_false_iff.mpr c22
      subst c22
      have H1 : (some x9_1) = some r := by rw [if_neg (show ¬ (false = true) by decide)] at H; exact H
      clear H
      have H := H1
      clear H1
      obtain rfl := Option.some.inj H
      go_wp2
      repeat (go_quiet (fail); try go_wp2)
      go_ret
      exact ⟨by first | rfl | (simp; done) | (simp only [← hji4, ← hji7, ← hji10] <;> (first | rfl | simp)) | (simp [*]; done), by repeat (first | exact Drawn0.refl _ | apply Drawn0.step)⟩
end Go.Proofs.YtaclkccgjpjdjaaGreat.N
