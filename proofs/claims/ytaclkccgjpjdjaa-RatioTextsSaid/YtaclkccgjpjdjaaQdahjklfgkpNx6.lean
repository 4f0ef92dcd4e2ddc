import Derived.Test.YtaclkccgjpjdjaaQemgcbmfiflNx0
import Derived.Test.YtaclkccgjpjdjaaQeijobmoeelNx5
import Derived.Test.YtaclkccgjpjdjaaQpbgibbbgddM
namespace Go.Proofs.Ytaclkccgjpjdjaa.N
open Go.RowKit Go.Proofs.YtaclkccgjpjdjaaW.PrintWords Go.Proofs.YtaclkccgjpjdjaaW.PrintLast Go.Proofs.YtaclkccgjpjdjaaW.PrintMore
attribute [local go_sem] max2_int min2_int max_two min_two max_three min_three max_four min_four   -- for this text's walks alone
set_option linter.unusedVariables false
set_option linter.unusedSimpArgs false
def slices_ContainsFunc_byte_byte.PredI (g : Nat) (lb : Array Value) (p : Int → Bool) (w : World) : Prop :=
 ∀ (W : World) (x : Int), Below w.heap.size w W → Calls Try.prog g (#[.int .u8 x] ++ lb) W fun e w' => e = .returned (.bool (p x)) ∧ Below w.heap.size w w'
set_option maxHeartbeats 2000000 in
theorem slices_ContainsFunc_byte_byte.index (g : Nat) (lb : Array Value) (p : Int → Bool) (eg : ∀ args w, (callFunc g args).run Try.prog w = .ok (.enter g args) w) (A : Option Addr) (c : Nat) (l : List Int) (w : World)
  (hr : Kd.C (Kd.int .u8) w A l.length l) (hc : l.length ≤ c) (hp : slices_ContainsFunc_byte_byte.PredI g lb p w) :
  Calls Try.prog 174 #[.slice A l.length c, .func (.func g) #[] lb] w fun e w' => (∃ r : Int, e = .returned (.int .i64 r) ∧ decide (0 ≤ r) = l.any p) ∧ Below w.heap.size w w' := by
 have h9 : l.length ≤ 9223372036854775807 := hr.2.1
 have HR := Aside0.mk hr
 clear hr
 go_enter Try.func174, Try.ntmps174
 go_wp2
 go_loopg [5, 8] l.length (fun gg _ s8 wr => ∃ kk : Nat, kk ≤ l.length ∧ l.length - kk ≤ gg ∧ s8 = .int .i64 kk ∧ Aside0 (Below w.heap.size w wr) ∧ Aside0 (∀ j (h : j < l.length), j < kk → p l[j] = false))
 case atStart => exact ⟨0, Nat.zero_le _, by omega, rfl, ⟨Below.refl _ w⟩, ⟨fun j _ hj => absurd hj (Nat.not_lt_zero _)⟩⟩
 case round =>
  obtain ⟨kk, hkk, hg, rfl, HB, HA⟩ := hrel
  by_cases hlt : kk < l.length
  ·obtain ⟨ad, cs, e0, _, hK, hcell⟩ := Kd.C_get (Kd.C_below HR.out HB.out) (0 : Int) (kk : Int) (by omega) (by omega)
   subst e0
   have hK2 : cs = [.int .u8 (l.getD (kk : Int).toNat 0)] := hK
   subst hK2
   have hx : wr.cell? (ad.add kk) = some (.int .u8 l[kk]) := by
    have := hcell 0 _ rfl
    rw [Int.toNat_natCast, List.getD_eq_getElem?_getD, List.getElem?_eq_getElem hlt] at this
    simpa [Kd.int, Kd.scalar] using this
   clear hcell hK
   have hltz : (kk : Int) < (l.length : Int) := by omega
   have hcall := hp wr l[kk] HB.out
   generalize hy : l[kk] = y at hx hcall
   have HY := Aside0.mk hy
   clear hy
   cases hq : p y with
   | true =>
    rw [hq] at hcall
    clear hp
    go_wp2
    refine hcall.mono ?_
    clear hcall
    rintro e w' ⟨rfl, hb'⟩
    go_wp2
    go_ret
    refine ⟨⟨(kk : Int), rfl, ?_⟩, hb'⟩
    rw [decide_eq_true (Int.natCast_nonneg kk)]
    exact (List.any_eq_true.mpr ⟨l[kk], List.getElem_mem _, by rw [HY.out]; exact hq⟩).symm
   | false =>
    rw [hq] at hcall
    clear hp
    go_wp2
    refine hcall.mono ?_
    clear hcall
    rintro e w' ⟨rfl, hb'⟩
    go_wp2
    go_roundg (l.length - (kk + 1))
    case measure => omega
    case rel =>
     refine ⟨kk + 1, by omega, Nat.le_refl _, ?_, ⟨hb'⟩, ⟨fun j hj hjk => ?_⟩⟩
     ·simp
     ·by_cases e : j = kk
      ·subst e; rw [HY.out]; exact hq
      ·exact HA.out j hj (by omega)
  ·have hltz : ¬ (kk : Int) < (l.length : Int) := by omega
   go_wp2
   go_ret
   refine ⟨⟨-1, rfl, ?_⟩, HB.out⟩
   rw [show decide ((0 : Int) ≤ -1) = false from rfl]
   symm
   rw [List.any_eq_false]
   intro x hx
   obtain ⟨j, hj, rfl⟩ := List.getElem_of_mem hx
   rw [HA.out j hj (by omega)]
   decide
theorem slices_ContainsFunc_byte_byte.contains (g : Nat) (lb : Array Value) (p : Int → Bool) (eg : ∀ args w, (callFunc g args).run Try.prog w = .ok (.enter g args) w) (A : Option Addr) (c : Nat) (l : List Int) (w : World)
  (hr : Kd.C (Kd.int .u8) w A l.length l) (hc : l.length ≤ c) (hp : slices_ContainsFunc_byte_byte.PredI g lb p w) :
  Calls Try.prog 139 #[.slice A l.length c, .func (.func g) #[] lb] w fun e w' => e = .returned (.bool (l.any p)) ∧ Below w.heap.size w w' := by
 have h := slices_ContainsFunc_byte_byte.index g lb p eg A c l w hr hc hp
 clear hr hp
 go_enter Try.func139, Try.ntmps139
 go_wp2_with (go_at_call 174; refine h.mono ?_; rintro e w' ⟨⟨r, rfl, hr⟩, hb⟩)
 go_ret
 exact ⟨by rw [← hr]; rfl, hb⟩
def slices_ContainsFunc_byte_byte.strange (c : Int) : Bool := decide (c < 48) || decide (c > 57)
theorem slices_ContainsFunc_byte_byte.pred (w : World) : slices_ContainsFunc_byte_byte.PredI 138 #[] slices_ContainsFunc_byte_byte.strange w := by
 intro W x hB
 show Calls Try.prog 138 #[.int .u8 x] W _
 go_enter Try.func138, Try.ntmps138
 by_cases h : x < 48
 ·go_wp2
  go_ret
  exact ⟨by simp [slices_ContainsFunc_byte_byte.strange, h], hB⟩
 ·go_wp2
  go_ret
  exact ⟨by simp [slices_ContainsFunc_byte_byte.strange]; omega, hB⟩
def slices_ContainsFunc_byte_byte.f (l0 : List Int) : Option (Bool) := some (l0.any slices_ContainsFunc_byte_byte.strange)
set_option maxRecDepth 100000 in
theorem slices_ContainsFunc_byte_byte.calls (A0 : Option Addr) (c0 : Nat) (l0 : List Int) (r : Bool) (w : World) (hr0 : Kd.C (Kd.int .u8) w A0 l0.length l0) (hc0 : l0.length ≤ c0) (h : slices_ContainsFunc_byte_byte.f l0 = some r) :
  Calls Try.prog 139 #[.slice A0 l0.length c0, .func (.func 138) #[] #[]] w fun e w' => e = .returned (.bool r) ∧ Below w.heap.size w w' := by
 simp only [slices_ContainsFunc_byte_byte.f, Option.some.injEq] at h
 subst h
 exact slices_ContainsFunc_byte_byte.contains 138 #[] _ (fun _ _ => rfl) A0 c0 l0 w hr0 hc0 (slices_ContainsFunc_byte_byte.pred w)
theorem slices_ContainsFunc_byte_byte.calls_str (a0 : ByteArray) (hs : a0.size ≤ 9223372036854775807) (c : Nat) (hc : a0.size ≤ c) (r : Bool) (W : World) (h : (bytesOf a0).any slices_ContainsFunc_byte_byte.strange = r) :
  Calls Try.prog 139 #[.slice (some ⟨W.heap.size, 0, none⟩) a0.size c, .func (.func 138) #[] #[]] (Lib.bytesWorld W 5 a0) fun e w' => e = .returned (.bool r) ∧ Below W.heap.size W w' := by
 have hl := bytesOf_length a0
 have hb := bytes_below (Below.refl W.heap.size W) (Nat.le_refl _) 5 a0
 have h1 := slices_ContainsFunc_byte_byte.calls (some ⟨W.heap.size, 0, none⟩) c (bytesOf a0) r (Lib.bytesWorld W 5 a0) (by rw [hl]; exact Kd.C_of_reads (readsInt_of.1 (bytes_reads W 5 a0 hs))) (by rw [hl]; exact hc) (congrArg some h)
 rw [hl] at h1
 exact h1.mono fun e w' ⟨he, hb'⟩ => ⟨he, below_step hb hb'⟩
mutual
def nat_Parse.l0 : Nat → ByteArray → List Int → Option (List Int × Int)
 | 0, _, _ => none
 | k + 1, x0, x5 => if (x0.size : Int) > 0 then (nat_Parse.l1 k x0 x5 (mn 9 (x0.size : Int)) 0 1 (mn 9 (x0.size : Int)) 0) else (some (x5, 0))
def nat_Parse.l1 : Nat → ByteArray → List Int → Int → Int → Int → Int → Int → Option (List Int × Int)
 | 0, _, _, _, _, _, _, _ => none
 | k + 1, x0, x5, x6, x7, x8, x29, x30 => if x30 < x29 then (if 0 ≤ x30 then (if x30 < (x0.size : Int) then (nat_Parse.l1 k x0 x5 x6 ((((10 * x7) % 4294967296) + (((bt x0 x30) - 48) % 256)) % 4294967296) ((x8 * 10) % 4294967296) x29 (wrap64 (x30 + 1))) else (none)) else (none)) else ((nat_Mul.f k x5 (([x8] : List Int))).bind fun t275 => ((nat_Add.f k t275 (([x7] : List Int))).bind fun t281 => (if 0 ≤ x6 then (if x6 ≤ (x0.size : Int) then (nat_Parse.l0 k (x0.extract (x6 : Int).toNat x0.size) t281) else (none)) else (none))))
end
def nat_Parse.g (k : Nat) (a0 : ByteArray) : Option (List Int × Int) := if (a0.size : Int) > 300 then (some (([] : List Int), 2)) else (nat_Parse.l0 k a0 ([] : List Int))
set_option maxHeartbeats 8000000 in
set_option maxRecDepth 100000 in
theorem nat_Parse.calls_g (k : Nat) (a0 : ByteArray) (r1 : List Int) (r2 : Int) (w : World) (h : nat_Parse.g k a0 = some (r1, r2)) (hsz : a0.size ≤ 9223372036854775807) (h0_ : ¬ a0.toList = ([] : List UInt8)) (ha_ : (bytesOf a0).any slices_ContainsFunc_byte_byte.strange = false) :
  Calls Try.prog 37 #[.string a0] w fun e w' => ∃ v0_ : Value, e = .returned (.tuple #[v0_, .int .i64 r2]) ∧ Kd.V (Kd.int .u32) 107 w' w.heap.size (fun k_ => (w.heap.size ≤ k_)) v0_ r1 ∧ Below w.heap.size w w' := by
 have ns1 : (a0.toList == ([] : List UInt8)) = false := beq_eq_false_iff_ne.mpr h0_
 have ns2 : (a0.toList != ([] : List UInt8)) = true := bne_iff_ne.mpr h0_
 have kb := fun W => print_bytes (P := Try.prog) 9 123 5 Try.underlying9 Try.underlying123 Try.underlying5 a0 W
 have HSZ := Aside0.mk hsz
 have HA_ := Aside0.mk ha_
 clear hsz h0_ ha_
 have H : (if (a0.size : Int) > 300 then (some (([] : List Int), 2)) else (nat_Parse.l0 k a0 ([] : List Int))) = some (r1, r2) := h
 clear h
 by_cases c2 : (a0.size : Int) > 300
 ·rw [if_pos c2] at H
  have c2b0 : decide (300 < (a0.size : Int)) = true := decide_eq_true c2
  have c2b1 : decide (300 < a0.size) = true := decide_eq_true (by omega)
  clear c2
  simp only [Option.some.injEq, Prod.mk.injEq] at H
  obtain ⟨rfl, rfl⟩ := H
  go_enter Try.func37, Try.ntmps37
  go_wp2_with ((go_at_call 139; refine (slices_ContainsFunc_byte_byte.calls_str a0 HSZ.out _ (grownCap_ge _ _ _ _) false _ HA_.out).mono ?_; rintro e w1_ ⟨rfl, hb⟩))
  have HB := Aside0.mk hb
  clear hb kb ns1 ns2 HSZ HA_
  go_ret2
  exact ⟨_, by first | rfl | (simp [errW_none, errW_some] <;> rfl) | (simp [*, errW_none, errW_some] <;> rfl), (by exact Kd.V_nil _ _ _ _ _), Sq.bl HB⟩
 ·rw [if_neg c2] at H
  have c2b0 : decide (300 < (a0.size : Int)) = false := decide_eq_false c2
  have c2b1 : decide (300 < a0.size) = false := decide_eq_false (by omega)
  clear c2
  have H' := Aside0.mk H
  clear H
  go_enter Try.func37, Try.ntmps37
  go_wp2_with ((go_at_call 139; refine (slices_ContainsFunc_byte_byte.calls_str a0 HSZ.out _ (grownCap_ge _ _ _ _) false _ HA_.out).mono ?_; rintro e w1_ ⟨rfl, hb⟩))
  have HB := Aside0.mk hb
  clear hb kb ns1 ns2 HSZ HA_
  go_loopg [0, 5] k (fun kq v0 v5 w' => ∃ (x0_1 : ByteArray) (x5_1 : List Int), v0 = .string x0_1 ∧ Aside0 (nat_Parse.l0 kq x0_1 x5_1 = some (r1, r2)) ∧ Aside0 (kq ≤ k) ∧ Aside0 (Kd.V (Kd.int .u32) 107 w' w.heap.size (fun k_ => (w.heap.size ≤ k_)) v5 x5_1) ∧ Aside0 (Below w.heap.size w w'))
  case atStart => exact ⟨(a0), (([] : List Int)), (by first | rfl | (simp; done) | (simp [*]; done)), H', ⟨Nat.le_refl _⟩, ⟨(by exact Kd.V_nil _ _ _ _ _)⟩, ⟨Sq.bl HB⟩⟩
  case round =>
   clear H'
   try clear c2
   try clear c2b0
   try clear c2b1
   try clear p2
   obtain ⟨x0_1, x5_1, rfl, HA, HK1, HO_5, HB⟩ := hrel
   cases gk with
   | zero => exact absurd HA.out (by simp [nat_Parse.l0])
   | succ k1 =>
    have H := HA.out
    clear HA
    simp only [nat_Parse.l0] at H
    by_cases c3 : (x0_1.size : Int) > 0
    ·rw [if_pos c3] at H
     have c3b0 : decide (0 < (x0_1.size : Int)) = true := decide_eq_true c3
     have c3b1 : decide (0 < x0_1.size) = true := decide_eq_true (by omega)
     clear c3
     obtain ⟨ji4, hji4⟩ : ∃ j_ : Int, (mn 9 (x0_1.size : Int)) = j_ := ⟨_, rfl⟩
     (first | rw [hji4] at H | simp only [hji4] at H)
     have hji4_ : (if (x0_1.size : Int) < 9 then (x0_1.size : Int) else 9) = ji4 := hji4
     have H' := Aside0.mk H
     clear H
     go_wp2
     go_loopg [7, 8, 30] k1 (fun kq v7 v8 v30 w' => ∃ (x7_2 : Int) (x8_2 : Int) (x30_2 : Int), v7 = .int .u32 x7_2 ∧ v8 = .int .u32 x8_2 ∧ v30 = .int .i64 x30_2 ∧ Aside0 (nat_Parse.l1 kq x0_1 x5_1 ji4 x7_2 x8_2 ji4 x30_2 = some (r1, r2)) ∧ Aside0 (kq ≤ k1) ∧ Aside0 (Kd.V (Kd.int .u32) 107 w' w.heap.size (fun k_ => (w.heap.size ≤ k_)) u5 x5_1) ∧ Aside0 (Below w.heap.size w w'))
     case atStart => exact ⟨(0), (1), (0), (by first | rfl | (simp; done) | (simp [*]; done)), (by first | rfl | (simp; done) | (simp [*]; done)), (by first | rfl | (simp; done) | (simp [*]; done)), H', ⟨Nat.le_refl _⟩, ⟨by (with_reducible repeat (first | apply Kd.V_alloc | apply Kd.V_drewN | apply Kd.V_drew)); exact HO_5.out⟩, ⟨Sq.bl HB⟩⟩
     case round =>
      clear H'
      try clear c2
      try clear c2b0
      try clear c2b1
      try clear p2
      try clear c3
      try clear c3b0
      try clear c3b1
      try clear p2
      obtain ⟨x7_2, x8_2, x30_2, rfl, rfl, rfl, HA, HK2, HO_5, HB⟩ := hrel
      cases gk with
      | zero => exact absurd HA.out (by simp [nat_Parse.l1])
      | succ k2 =>
       have H := HA.out
       clear HA
       simp only [nat_Parse.l1] at H
       by_cases c5 : x30_2 < ji4
       ·rw [if_pos c5] at H
        have c5b0 : decide (x30_2 < ji4) = true := decide_eq_true c5
        clear c5
        replace H := Sq.ifs H
        obtain ⟨c6, H⟩ := H
        have c6b0 : decide (0 ≤ x30_2) = true := decide_eq_true c6
        clear c6
        replace H := Sq.ifs H
        obtain ⟨c7, H⟩ := H
        have c7b0 : decide (x30_2 < (x0_1.size : Int)) = true := decide_eq_true c7
        clear c7
        have H' := Aside0.mk H
        clear H
        have p8 : 0 ≤ (x30_2 : Int) := of_decide_eq_true (by first | (with_reducible assumption) | assumption)
        have q8 : x30_2 < (x0_1.size : Int) := of_decide_eq_true (by first | (with_reducible assumption) | assumption)
        have hx8 := bt_at x0_1 x30_2
        replace p8 := eq_true p8
        replace q8 := eq_true q8
        go_wp2
        go_roundg k2
        case measure => have := HK1.out; have := HK2.out; omega
        case rel => exact ⟨((((10 * x7_2) % 4294967296) + (((bt x0_1 x30_2) - 48) % 256)) % 4294967296), ((x8_2 * 10) % 4294967296), (wrap64 (x30_2 + 1)), (by first | rfl | (simp; done) | (simp [*]; done)), (by first | rfl | (simp; done) | (simp [*]; done)), (by first | rfl | (simp; done) | (simp [*]; done)), H', ⟨by have := HK1.out; have := HK2.out; omega⟩, ⟨by (with_reducible repeat (first | apply Kd.V_alloc | apply Kd.V_drewN | apply Kd.V_drew)); exact HO_5.out⟩, ⟨Sq.bl HB⟩⟩
       ·rw [if_neg c5] at H
        have c5b0 : decide (x30_2 < ji4) = false := decide_eq_false c5
        clear c5
        obtain ⟨y272, hy272⟩ : ∃ y_ : List Int, y_ = (([x8_2] : List Int)) := ⟨_, rfl⟩
        (first | (replace H := Sq.ny hy272 H; (try dsimp -simprocs only at H)) | rw [← hy272] at H | skip)
        have Ny272 := Aside0.mk hy272
        clear hy272
        replace H := Sq.bd H
        obtain ⟨t275, A9, H⟩ := H
        (try dsimp -simprocs only at H)
        obtain ⟨y278, hy278⟩ : ∃ y_ : List Int, y_ = (([x7_2] : List Int)) := ⟨_, rfl⟩
        (first | (replace H := Sq.ny hy278 H; (try dsimp -simprocs only at H)) | rw [← hy278] at H | skip)
        have Ny278 := Aside0.mk hy278
        clear hy278
        replace H := Sq.bd H
        obtain ⟨t281, A10, H⟩ := H
        (try dsimp -simprocs only at H)
        replace H := Sq.ifs H
        obtain ⟨c11, H⟩ := H
        have c11b0 := eq_true c11
        have c11b1 : decide (0 ≤ ji4) = true := decide_eq_true c11
        clear c11
        replace H := Sq.ifs H
        obtain ⟨c12, H⟩ := H
        have c12b0 := eq_true c12
        have c12b1 : decide (ji4 ≤ (x0_1.size : Int)) = true := decide_eq_true c12
        clear c12
        have H' := Aside0.mk H
        clear H
        go_wp2_with (first | ((with_reducible refine gate_dst (N := 46) rfl ?_); refine Kd.R_lit (Kd.int .u32) _ 107 ?hg (N := 46) ?hd (xs := ([x8_2] : List Int)) (inner := [.int .u32 x8_2]) (ok := fun _ => True) (okp := fun _ => True) ?hr ?hp (fun _ hk => hk) trivial (Below.refl _ _) (Nat.le_refl _) (by simp) ?_; (case hd => rfl); (case hg => rfl); (case hr => first | (go_simp; done) | (go_simp; rfl)); (case hp => exact (Reps.one (show Kd.M (Kd.int .u32) _ _ _ x8_2 [.int .u32 x8_2] from rfl) (Reps.none _ _))); intro v273 w13 ho14 hb hg_ hnew_; clear hg_ hnew_; (first | rw [← Ny272.out] at ho14 | (simp only [Int.reduceToNat] at ho14; rw [← Ny272.out] at ho14)); replace HO_5 := Aside0.mk (Kd.V_elder' (Sq.al HO_5) (Kd.R_base ho14) hb); have HO274 := Aside0.mk (Kd.R_lower (Kd.R_newM (M := fun k_ => (w.heap.size ≤ k_)) ho14 (below_size (Sq.bl HB)) (fun k_ h_ => h_)) (below_size (Sq.bl HB))); replace HB := Sq.bs HB hb; clear hb ho14; obtain ⟨Ao15, co15, eo15⟩ := Kd.V_slice HO_5.out; subst eo15; obtain ⟨Ao16, co16, eo16⟩ := Kd.R_slice HO274.out; subst eo16) | ((with_reducible refine gate_callee (f := 43) rfl ?_); refine Sq.gl (some 47) Try.func43 #[.slice Ao15 x5_1.length co15, .slice Ao16 y272.length co16] ?_; (with_reducible refine (nat_Mul.calls k2 _ _ x5_1 _ _ y272 t275 _ ?side1 ?side2 ?side3 ?side4 A9.out).mono ?_); (case side1 => exact Sq.ca (Kd.V_reads' HO_5.out).2.2); (case side2 => exact (Kd.V_reads' HO_5.out).2.1); (case side3 => exact Sq.ca (Kd.R_reads' HO274.out).2.2); (case side4 => exact (Kd.R_reads' HO274.out).2.1); rintro e w17 ⟨v276, rfl, ho0, hb⟩; refine ⟨_, rfl, ?_⟩; replace HO_5 := Aside0.mk (Kd.V_below (Sq.al HO_5) hb); have HO277 := Aside0.mk (Kd.V_lower (Kd.V_mono (ok' := fun k_ => (w.heap.size ≤ k_) ∧ some k_ ≠ (.slice Ao16 y272.length co16 : Value).ownBlock) ho0 (fun k_ hk_ => ⟨(Nat.le_trans (below_size (Sq.bl HB)) hk_), (Kd.fresh' (Kd.R_lt (Sq.al HO274)) k_ hk_)⟩)) (below_size (Sq.bl HB))); replace HO274 := Aside0.mk (Kd.R_below (Sq.al HO274) hb); replace HB := Sq.bs HB hb; (try clear hb); (try clear hb2); (try clear hk); (try clear hi); (try clear ho0)) | ((with_reducible refine gate_dst (N := 49) rfl ?_); refine Kd.R_lit (Kd.int .u32) _ 107 ?hg (N := 49) ?hd (xs := ([x7_2] : List Int)) (inner := [.int .u32 x7_2]) (ok := fun _ => True) (okp := fun _ => True) ?hr ?hp (fun _ hk => hk) trivial (Below.refl _ _) (Nat.le_refl _) (by simp) ?_; (case hd => rfl); (case hg => rfl); (case hr => first | (go_simp; done) | (go_simp; rfl)); (case hp => exact (Reps.one (show Kd.M (Kd.int .u32) _ _ _ x7_2 [.int .u32 x7_2] from rfl) (Reps.none _ _))); intro v279 w18 ho19 hb hg_ hnew_; clear hg_ hnew_; (first | rw [← Ny278.out] at ho19 | (simp only [Int.reduceToNat] at ho19; rw [← Ny278.out] at ho19)); replace HO_5 := Aside0.mk (Kd.V_elder' (Sq.al HO_5) (Kd.R_base ho19) hb); replace HO277 := Aside0.mk (Kd.V_elder' (Sq.al HO277) (Kd.R_base ho19) hb); have HO280 := Aside0.mk (Kd.R_lower (Kd.R_new' (Kd.R_newM (M := fun k_ => (w.heap.size ≤ k_)) ho19 (below_size (Sq.bl HB)) (fun k_ h_ => h_)) (Kd.R_lt (Sq.al HO274))) (below_size (Sq.bl HB))); replace HO274 := Aside0.mk (Kd.R_elder' (Sq.al HO274) (Kd.R_base ho19) hb); replace HB := Sq.bs HB hb; clear hb ho19; obtain ⟨Ao20, co20, eo20⟩ := Kd.V_slice HO277.out; subst eo20; obtain ⟨Ao21, co21, eo21⟩ := Kd.R_slice HO280.out; subst eo21) | ((with_reducible refine gate_callee (f := 42) rfl ?_); refine Sq.gl (some 50) Try.func42 #[.slice Ao20 t275.length co20, .slice Ao21 y278.length co21] ?_; (with_reducible refine (nat_Add.calls k2 _ _ t275 _ _ y278 t281 _ ?side1 ?side2 ?side3 ?side4 A10.out).mono ?_); (case side1 => exact Sq.ca (Kd.V_reads' HO277.out).2.2); (case side2 => exact (Kd.V_reads' HO277.out).2.1); (case side3 => exact Sq.ca (Kd.R_reads' HO280.out).2.2); (case side4 => exact (Kd.R_reads' HO280.out).2.1); rintro e w22 ⟨v282, rfl, ho0, hb⟩; refine ⟨_, rfl, ?_⟩; replace HO_5 := Aside0.mk (Kd.V_below (Sq.al HO_5) hb); replace HO277 := Aside0.mk (Kd.V_below (Sq.al HO277) hb); have HO283 := Aside0.mk (Kd.V_lower (Kd.V_mono (ok' := fun k_ => (w.heap.size ≤ k_) ∧ some k_ ≠ (.slice Ao16 y272.length co16 : Value).ownBlock ∧ some k_ ≠ (.slice Ao21 y278.length co21 : Value).ownBlock) ho0 (fun k_ hk_ => ⟨(Nat.le_trans (below_size (Sq.bl HB)) hk_), (Kd.fresh' (Kd.R_lt (Sq.al HO274)) k_ hk_), (Kd.fresh' (Kd.R_lt (Sq.al HO280)) k_ hk_)⟩)) (below_size (Sq.bl HB))); replace HO274 := Aside0.mk (Kd.R_below (Sq.al HO274) hb); replace HO280 := Aside0.mk (Kd.R_below (Sq.al HO280) hb); replace HB := Sq.bs HB hb; (try clear hb); (try clear hb2); (try clear hk); (try clear hi); (try clear ho0)))
        go_roundg k2
        case measure => have := HK1.out; have := HK2.out; omega
        case rel => exact ⟨(x0_1.extract (ji4 : Int).toNat x0_1.size), (t281), (by first | rfl | (simp; done) | (simp only [← hji4] <;> (first | rfl | simp)) | (simp [*]; done)), H', ⟨by have := HK1.out; have := HK2.out; omega⟩, ⟨by (with_reducible repeat (first | apply Kd.V_alloc | apply Kd.V_drewN | apply Kd.V_drew)); exact Kd.V_mono HO283.out (fun _ hk => hk.1)⟩, ⟨Sq.bl HB⟩⟩
    ·rw [if_neg c3] at H
     have c3b0 : decide (0 < (x0_1.size : Int)) = false := decide_eq_false c3
     have c3b1 : decide (0 < x0_1.size) = false := decide_eq_false (by omega)
     clear c3
     simp only [Option.some.injEq, Prod.mk.injEq] at H
     obtain ⟨rfl, rfl⟩ := H
     go_wp2
     go_ret2
     exact ⟨_, by first | rfl | (simp [errW_none, errW_some] <;> rfl) | (simp [*, errW_none, errW_some] <;> rfl), by (with_reducible repeat (first | apply Kd.V_alloc | apply Kd.V_drewN | apply Kd.V_drew)); exact HO_5.out, Sq.bl HB⟩
def nat_Parse.f (k : Nat) (a0 : ByteArray) : Option (List Int × Int) := if a0.size ≤ 140737488351232 then (if a0.toList = ([] : List UInt8) then some ([], 4) else if (bytesOf a0).any slices_ContainsFunc_byte_byte.strange = true then some ([], 4) else nat_Parse.g k a0) else none
theorem nat_Parse.calls (k : Nat) (a0 : ByteArray) (r1 : List Int) (r2 : Int) (w : World) (h : nat_Parse.f k a0 = some (r1, r2)) :
  Calls Try.prog 37 #[.string a0] w fun e w' => ∃ v0_ : Value, e = .returned (.tuple #[v0_, .int .i64 r2]) ∧ Kd.V (Kd.int .u32) 107 w' w.heap.size (fun k_ => (w.heap.size ≤ k_)) v0_ r1 ∧ Below w.heap.size w w' := by
 unfold nat_Parse.f at h
 by_cases hs : a0.size ≤ 140737488351232
 ·rw [if_pos hs] at h
  by_cases h0 : a0.toList = ([] : List UInt8)
  ·rw [if_pos h0] at h
   injection h with h
   injection h with h1 h2
   subst h1 h2
   have c2b0 : (a0.toList == ([] : List UInt8)) = true := beq_iff_eq.mpr h0
   have c2b1 : (a0.toList != ([] : List UInt8)) = false := bne_eq_false_iff_eq.mpr h0
   clear h0 hs
   go_enter Try.func37, Try.ntmps37
   go_wp2
   go_ret2
   exact ⟨_, rfl, (by exact Kd.V_nil _ _ _ _ _), Below.refl _ _⟩
  ·rw [if_neg h0] at h
   by_cases ha : (bytesOf a0).any slices_ContainsFunc_byte_byte.strange = true
   ·rw [if_pos ha] at h
    injection h with h
    injection h with h1 h2
    subst h1 h2
    have ns1 : (a0.toList == ([] : List UInt8)) = false := beq_eq_false_iff_ne.mpr h0
    have ns2 : (a0.toList != ([] : List UInt8)) = true := bne_iff_ne.mpr h0
    have kb := fun W => print_bytes (P := Try.prog) 9 123 5 Try.underlying9 Try.underlying123 Try.underlying5 a0 W
    have HSZ := Aside0.mk (show a0.size ≤ 9223372036854775807 by omega)
    have HA_ := Aside0.mk ha
    clear h0 hs ha
    go_enter Try.func37, Try.ntmps37
    go_wp2_with ((go_at_call 139; refine (slices_ContainsFunc_byte_byte.calls_str a0 HSZ.out _ (grownCap_ge _ _ _ _) true _ HA_.out).mono ?_; rintro e w1_ ⟨rfl, hb⟩))
    go_ret2
    exact ⟨_, rfl, (by exact Kd.V_nil _ _ _ _ _), hb⟩
   ·rw [if_neg ha] at h
    exact nat_Parse.calls_g k a0 r1 r2 w h (by omega) h0 (by simpa using ha)
 ·rw [if_neg hs] at h
  cases h
def slices_Reverse_byte_byte.l0 : Nat → List Int → Int → Int → Option (List Int)
 | 0, _, _, _ => none
 | k + 1, x0, x2, x3 => if x2 < x3 then (if 0 ≤ x3 then (if x3 < (x0.length : Int) then (if 0 ≤ x2 then (if x2 < (x0.length : Int) then (slices_Reverse_byte_byte.l0 k ((x0.set (x2 : Int).toNat (rd x0 x3)).set (x3 : Int).toNat (rd x0 x2)) (wrap64 (x2 + 1)) (wrap64 (x3 - 1))) else (none)) else (none)) else (none)) else (none)) else (some x0)
def slices_Reverse_byte_byte.f (k : Nat) (l0 : List Int) : Option (List Int) := slices_Reverse_byte_byte.l0 k l0 0 (wrap64 ((l0.length : Int) - 1))
def slices_Reverse_byte_byte.T3 : Bool × List (List Nat × List Nat) := (true, [([], []), ([], []), ([], []), ([], []), ([], []), ([], []), ([4, 5], [4, 5]), ([6], [6]), ([], []), ([], []), ([8, 9], [8, 9]), ([10], [10]), ([0, 1, 0, 1, 4, 5, 6, 7, 11], [0, 1]), ([12, 7, 0, 1, 4, 5, 6, 7, 11], [7, 12]), ([2, 3, 0, 1, 2, 3, 4, 5, 6, 7, 8, 9, 10, 11, 12, 13], [2, 3]), ([14, 11, 13, 0, 1, 2, 3, 4, 5, 6, 7, 8, 9, 10, 11, 12, 13], [11, 14])])
def slices_Reverse_byte_byte.B3 : List Nat := [0, 0, 0, 0, 0, 0, 48, 112, 0, 0, 768, 1792, 4083, 8179, 16383, 32767]
theorem slices_Reverse_byte_byte.tab3 : rtab .any (opsOf Try.f141 3) = slices_Reverse_byte_byte.T3 := by kernel_rfl
theorem slices_Reverse_byte_byte.bits3 : waitsOk slices_Reverse_byte_byte.T3.2 slices_Reverse_byte_byte.B3 = true := by kernel_rfl
set_option maxHeartbeats 8000000 in
set_option maxRecDepth 100000 in
theorem slices_Reverse_byte_byte.calls (k : Nat) (P0_ : Nat → Prop) (u9000_ : Value) (l0 : List Int) (r : List Int) (w0 w : World) (hB : Below w0.heap.size w0 w) (ho0 : Kd.R (Kd.int .u8) 5 w w0.heap.size P0_ u9000_ l0) (h : slices_Reverse_byte_byte.f k l0 = some r) :
  Calls Try.prog 141 #[u9000_] w fun e w' => e = .returned (.tuple #[]) ∧ Kd.R (Kd.int .u8) 5 w' w0.heap.size (fun k_ => (P0_ k_ ∨ w.heap.size ≤ k_)) u9000_ r ∧ Below w0.heap.size w0 w' ∧ Kept w w' (fun k_ => P0_ k_) := by
 have HO0 := Aside0.mk (show Kd.R (Kd.int .u8) 5 w w0.heap.size (fun k_ => (P0_ k_ ∨ w.heap.size ≤ k_)) u9000_ l0 from Kd.R_mono ho0 (fun k_ hk => (.inl hk)))
 have HK := Aside0.mk (Kept.refl w (fun k_ => P0_ k_))
 have HW0 := Aside0.mk hB.size
 have HB := Aside0.mk hB
 clear hB
 have H : (slices_Reverse_byte_byte.l0 k l0 0 (wrap64 ((l0.length : Int) - 1))) = some r := h
 clear h
 have H' := Aside0.mk H
 clear H
 obtain ⟨Ao2, co2, eo2⟩ := Kd.R_slice HO0.out
 subst eo2
 go_enter Try.func141, Try.ntmps141
 go_wp2
 go_loopg [2, 3] k (fun kq v2 v3 w' => ∃ (x0_1 : List Int) (x2_1 : Int) (x3_1 : Int), v2 = .int .i64 x2_1 ∧ v3 = .int .i64 x3_1 ∧ Aside0 (slices_Reverse_byte_byte.l0 kq x0_1 x2_1 x3_1 = some r) ∧ Aside0 (kq ≤ k) ∧ Aside0 (Kd.R (Kd.int .u8) 5 w' w0.heap.size (fun k_ => (P0_ k_ ∨ w.heap.size ≤ k_)) (.slice Ao2 l0.length co2) x0_1) ∧ Aside0 (Kept w w' (fun k_ => P0_ k_)) ∧ Aside0 (Below w0.heap.size w0 w'))
 case atStart => exact ⟨(l0), (0), (wrap64 ((l0.length : Int) - 1)), (by first | rfl | (simp; done) | (simp [*]; done)), (by first | rfl | (simp; done) | (simp [*]; done)), H', ⟨Nat.le_refl _⟩, ⟨by (with_reducible repeat (first | apply Kd.R_alloc | apply Kd.R_drewN | apply Kd.R_drew)); exact HO0.out⟩, ⟨by repeat (first | (with_reducible first | exact HK.out | apply Kept.alloc | apply Kept.drewN | apply Kept.drew) | exact HK.out)⟩, ⟨Sq.bl HB⟩⟩
 case round =>
  clear H'
  try clear c1
  try clear p2
  obtain ⟨x0_1, x2_1, x3_1, rfl, rfl, HA, HK1, HO_0, HK, HB⟩ := hrel
  have hl0_1 := (Kd.R_reads' HO_0.out).1
  rw [hl0_1] at HO_0
  (try simp only [hl0_1])
  cases gk with
  | zero => exact absurd HA.out (by simp [slices_Reverse_byte_byte.l0])
  | succ k1 =>
   have H := HA.out
   clear HA
   simp only [slices_Reverse_byte_byte.l0] at H
   by_cases c3 : x2_1 < x3_1
   ·rw [if_pos c3] at H
    have c3b0 : decide (x2_1 < x3_1) = true := decide_eq_true c3
    clear c3
    replace H := Sq.ifs H
    obtain ⟨c4, H⟩ := H
    have c4b0 : decide (0 ≤ x3_1) = true := decide_eq_true c4
    clear c4
    replace H := Sq.ifs H
    obtain ⟨c5, H⟩ := H
    have c5b0 : decide (x3_1 < (x0_1.length : Int)) = true := decide_eq_true c5
    clear c5
    replace H := Sq.ifs H
    obtain ⟨c6, H⟩ := H
    have c6b0 : decide (0 ≤ x2_1) = true := decide_eq_true c6
    clear c6
    replace H := Sq.ifs H
    obtain ⟨c7, H⟩ := H
    have c7b0 : decide (x2_1 < (x0_1.length : Int)) = true := decide_eq_true c7
    clear c7
    obtain ⟨y286, hy286⟩ : ∃ y_ : List Int, y_ = (x0_1.set (x2_1 : Int).toNat (rd x0_1 x3_1)) := ⟨_, rfl⟩
    (first | (replace H := Sq.ny hy286 H; (try dsimp -simprocs only at H)) | rw [← hy286] at H | skip)
    have Ny286 := Aside0.mk hy286
    clear hy286
    obtain ⟨y287, hy287⟩ : ∃ y_ : List Int, y_ = (y286.set (x3_1 : Int).toNat (rd x0_1 x2_1)) := ⟨_, rfl⟩
    (first | (replace H := Sq.ny hy287 H; (try dsimp -simprocs only at H)) | rw [← hy287] at H | skip)
    have Ny287 := Aside0.mk hy287
    clear hy287
    have H' := Aside0.mk H
    clear H
    try go_wp2
    replace HO_0 := Aside0.mk (Kd.R_drew HO_0.out)
    replace HK := Aside0.mk (Kept.drew HK.out)
    replace HB := Aside0.mk (below_drew1 HB.out)
    have p284 : 0 ≤ (x3_1 : Int) := of_decide_eq_true (by first | (with_reducible assumption) | assumption)
    have q284 : x3_1 < (x0_1.length : Int) := of_decide_eq_true (by first | (with_reducible assumption) | assumption)
    obtain ⟨ad284, e284, hx284_0⟩ := Kd.at_int (Kd.R_reads' HO_0.out).2.2 x3_1 p284 q284
    cases e284
    replace p284 := eq_true p284
    replace q284 := eq_true q284
    have p285 : 0 ≤ (x2_1 : Int) := of_decide_eq_true (by first | (with_reducible assumption) | assumption)
    have q285 : x2_1 < (x0_1.length : Int) := of_decide_eq_true (by first | (with_reducible assumption) | assumption)
    obtain ⟨ad285, e285, hx285_0⟩ := Kd.at_int (Kd.R_reads' HO_0.out).2.2 x2_1 p285 q285
    obtain rfl : ad284 = ad285 := (by injection e285)
    replace p285 := eq_true p285
    replace q285 := eq_true q285
    have p8 : 0 ≤ (x2_1 : Int) := of_decide_eq_true (by first | (with_reducible assumption) | assumption)
    have q8 : (x2_1 : Int) < ((x0_1.length : Int) : Int) := of_decide_eq_true (by first | (with_reducible assumption) | assumption)
    obtain ⟨go8, co8, eo8, gb8, gl8, cl8, HG8⟩ := Kd.R_form HO_0.out (by omega)
    (first | cases eo8 | (injection eo8 with ea_ en_ ec_; (first | subst ea_ | (injection ea_ with ea_; subst ea_)); subst ec_; clear en_))
    have GB8 := Aside0.mk gb8
    have GG8 := Aside0.mk HG8
    clear gb8 gl8 HG8
    have HMgo8 := Aside0.mk (show (P0_ go8 ∨ w.heap.size ≤ go8) from (HO_0.out.1 _ rfl))
    (first | simp only [add_plain] at hx284_0 | skip)
    (first | simp only [add_plain] at hx285_0 | skip)
    obtain ⟨hx8_0, hf8_0⟩ := Kd.R_celln 0 HO_0.out (x2_1 : Int) p8 q8
    replace p8 := eq_true p8
    replace q8 := eq_true q8
    have HP11 := Kd.R_putn HO_0.out (x2_1 : Int) (rd x0_1 x3_1)
    rw [← Ny286.out] at HP11
    have HQ11 := Aside0.mk HP11
    clear HP11
    have p9 : 0 ≤ (x3_1 : Int) := of_decide_eq_true (by first | (with_reducible assumption) | assumption)
    have q9 : (x3_1 : Int) < ((x0_1.length : Int) : Int) := of_decide_eq_true (by first | (with_reducible assumption) | assumption)
    obtain ⟨hx9_0, hf9_0⟩ := Kd.R_celln 0 HQ11.out (x3_1 : Int) p9 q9
    replace p9 := eq_true p9
    replace q9 := eq_true q9
    have HP12 := Kd.R_putn HQ11.out (x3_1 : Int) (rd x0_1 x2_1)
    rw [← Ny287.out] at HP12
    have HQ12 := Aside0.mk HP12
    clear HP12
    refine start_ (n := 16) (S := fun w' => w'.cell? ⟨go8, (x3_1).toNat, none⟩ = some (.int .u8 (rd x0_1 x3_1)) ∧ w'.cell? ⟨go8, (x2_1).toNat, none⟩ = some (.int .u8 (rd x0_1 x2_1))) (ds := [13, 15]) #[false, false, false, false, false, false, false, false, false, false, false, false, false, false, false, false] (by kernel_rfl) rfl rfl ⟨hx284_0, hx285_0⟩ (fun hHeld => ?_); refine with_tabW slices_Reverse_byte_byte.tab3 slices_Reverse_byte_byte.bits3 (fun HT_ HW_ => ?_)
    generalize wr.drew = w10 at HO_0 HK HB GG8 HQ11 HQ12 hf8_0 hf9_0 hx284_0 hx285_0 hx8_0 hx9_0 hHeld ⊢
    refine Sq.pu (v := ?_) (a' := ?_) 0 (some 14) #[true, false, false, false, false, false, false, false, false, false, false, false, false, false, false, false] HT_ ?_ ?_ ?_
    rotate_left
    ·intro w'
     go_simp
     with_reducible rfl
    rotate_left
    ·simp only [Act.put, List.setIfInBounds_toArray, List.set_cons_zero, List.set_cons_succ, i64_w, i32_w]
     rfl
    refine Sq.pu (v := ?_) (a' := ?_) 1 (some 15) #[true, true, false, false, false, false, false, false, false, false, false, false, false, false, false, false] HT_ ?_ ?_ ?_
    rotate_left
    ·intro w'
     go_simp
     with_reducible rfl
    rotate_left
    ·simp only [Act.put, List.setIfInBounds_toArray, List.set_cons_zero, List.set_cons_succ, i64_w, i32_w]
     rfl
    refine Sq.pu (v := ?_) (a' := ?_) 2 (some 16) #[true, true, true, false, false, false, false, false, false, false, false, false, false, false, false, false] HT_ ?_ ?_ ?_
    rotate_left
    ·intro w'
     go_simp
     with_reducible rfl
    rotate_left
    ·simp only [Act.put, List.setIfInBounds_toArray, List.set_cons_zero, List.set_cons_succ, i64_w, i32_w]
     rfl
    refine Sq.pu (v := ?_) (a' := ?_) 3 (some 17) #[true, true, true, true, false, false, false, false, false, false, false, false, false, false, false, false] HT_ ?_ ?_ ?_
    rotate_left
    ·intro w'
     go_simp
     with_reducible rfl
    rotate_left
    ·simp only [Act.put, List.setIfInBounds_toArray, List.set_cons_zero, List.set_cons_succ, i64_w, i32_w]
     rfl
    refine Sq.pu (v := ?_) (a' := ?_) 4 (some 18) #[true, true, true, true, true, false, false, false, false, false, false, false, false, false, false, false] HT_ ?_ ?_ ?_
    rotate_left
    ·intro w'
     go_simp
     with_reducible rfl
    rotate_left
    ·simp only [Act.put, List.setIfInBounds_toArray, List.set_cons_zero, List.set_cons_succ, i64_w, i32_w]
     rfl
    refine Sq.pu (v := ?_) (a' := ?_) 5 (some 19) #[true, true, true, true, true, true, false, false, false, false, false, false, false, false, false, false] HT_ ?_ ?_ ?_
    rotate_left
    ·intro w'
     go_simp
     with_reducible rfl
    rotate_left
    ·simp only [Act.put, List.setIfInBounds_toArray, List.set_cons_zero, List.set_cons_succ, i64_w, i32_w]
     rfl
    refine Sq.pu (v := ?_) (a' := ?_) 6 (some 20) #[true, true, true, true, true, true, true, false, false, false, false, false, false, false, false, false] HT_ ?_ ?_ ?_
    rotate_left
    ·intro w'
     go_simp
     with_reducible rfl
    rotate_left
    ·simp only [Act.put, List.setIfInBounds_toArray, List.set_cons_zero, List.set_cons_succ, i64_w, i32_w]
     rfl
    refine Sq.pu (v := ?_) (a' := ?_) 8 (some 22) #[true, true, true, true, true, true, true, false, true, false, false, false, false, false, false, false] HT_ ?_ ?_ ?_
    rotate_left
    ·intro w'
     go_simp
     with_reducible rfl
    rotate_left
    ·simp only [Act.put, List.setIfInBounds_toArray, List.set_cons_zero, List.set_cons_succ, i64_w, i32_w]
     rfl
    refine Sq.pu (v := ?_) (a' := ?_) 9 (some 23) #[true, true, true, true, true, true, true, false, true, true, false, false, false, false, false, false] HT_ ?_ ?_ ?_
    rotate_left
    ·intro w'
     go_simp
     with_reducible rfl
    rotate_left
    ·simp only [Act.put, List.setIfInBounds_toArray, List.set_cons_zero, List.set_cons_succ, i64_w, i32_w]
     rfl
    refine Sq.pu (v := ?_) (a' := ?_) 10 (some 24) #[true, true, true, true, true, true, true, false, true, true, true, false, false, false, false, false] HT_ ?_ ?_ ?_
    rotate_left
    ·intro w'
     go_simp
     with_reducible rfl
    rotate_left
    ·simp only [Act.put, List.setIfInBounds_toArray, List.set_cons_zero, List.set_cons_succ, i64_w, i32_w]
     rfl
    refine Sq.tk (v := ?_) (a' := ?_) 7 (some 21) #[true, true, true, true, true, true, true, true, true, true, true, false, false, false, false, false] HT_ HW_ hHeld ?_ ?_ ?_
    rotate_left
    ·rintro w' ⟨s0, s1⟩
     go_simp
     with_reducible rfl
    rotate_left
    ·simp only [Act.put, List.setIfInBounds_toArray, List.set_cons_zero, List.set_cons_succ, i64_w, i32_w]
     rfl
    refine Sq.tk (v := ?_) (a' := ?_) 11 (some 25) #[true, true, true, true, true, true, true, true, true, true, true, true, false, false, false, false] HT_ HW_ hHeld ?_ ?_ ?_
    rotate_left
    ·rintro w' ⟨s0, s1⟩
     go_simp
     with_reducible rfl
    rotate_left
    ·simp only [Act.put, List.setIfInBounds_toArray, List.set_cons_zero, List.set_cons_succ, i64_w, i32_w]
     rfl
    refine Sq.pu (v := ?_) (a' := ?_) 12 (some 26) #[true, true, true, true, true, true, true, true, true, true, true, true, true, false, false, false] HT_ ?_ ?_ ?_
    rotate_left
    ·intro w'
     go_simp
     with_reducible rfl
    rotate_left
    ·simp only [Act.put, List.setIfInBounds_toArray, List.set_cons_zero, List.set_cons_succ, i64_w, i32_w]
     rfl
    refine last_ (i := 13) (N := none) #[true, true, true, true, true, true, true, true, true, true, true, true, true, true, false, false] rfl rfl (one_of HT_.out (by kernel_rfl)) (by decide) (fun K hK => ?_)
    refine skip_ (w1 := ?_) (by rfl) rfl ?_ ?_
    rotate_left
    ·go_simp
     rfl
    refine hK.out _ _ ?_
    clear hK K
    refine Sq.pu (v := ?_) (a' := ?_) 14 (some 27) #[true, true, true, true, true, true, true, true, true, true, true, true, true, true, true, false] HT_ ?_ ?_ ?_
    rotate_left
    ·intro w'
     go_simp
     with_reducible rfl
    rotate_left
    ·simp only [Act.put, List.setIfInBounds_toArray, List.set_cons_zero, List.set_cons_succ, i64_w, i32_w]
     rfl
    refine last_ (i := 15) (N := none) #[true, true, true, true, true, true, true, true, true, true, true, true, true, true, true, true] rfl rfl (one_of HT_.out (by kernel_rfl)) (by decide) (fun K hK => ?_)
    refine skip_ (w1 := ?_) (by rfl) rfl ?_ ?_
    rotate_left
    ·go_simp
     rfl
    refine hK.out _ _ ?_
    clear hK K
    refine done_ (done_of HT_.out (by kernel_rfl)) ?_
    try go_wp2
    (try simp only [← hl0_1])
    go_roundg k1
    case measure => have := HK1.out; omega
    case rel => exact ⟨(y287), (wrap64 (x2_1 + 1)), (wrap64 (x3_1 - 1)), (by first | rfl | (simp; done) | (simp [*]; done)), (by first | rfl | (simp; done) | (simp [*]; done)), H', ⟨by have := HK1.out; omega⟩, ⟨by (try simp only [hl0_1]); (with_reducible repeat (first | apply Kd.R_alloc | apply Kd.R_drewN | apply Kd.R_drew)); exact HQ12.out⟩, ⟨by repeat (first | (with_reducible first | exact HK.out | apply Kept.alloc | apply Kept.drewN | apply Kept.drew | refine Kept.setCell ?_ HMgo8.out _ | refine Kept.setCell ?_ HMgo8.out _) | exact HK.out)⟩, ⟨Sq.bl HB⟩⟩
   ·rw [if_neg c3] at H
    have c3b0 : decide (x2_1 < x3_1) = false := decide_eq_false c3
    clear c3
    obtain rfl := Option.some.inj H
    go_wp2
    first | go_end0 | ((try simp only [Exit.inBlock, Exit.then]); refine bodyPost_ret (results_none rfl _ _ _) rfl ?_)
    exact ⟨by first | rfl | (simp [errW_none, errW_some] <;> rfl) | (simp [*, errW_none, errW_some] <;> rfl), (by first | exact (Sq.al HO_0) | (simp only [hl0_1]; exact (Sq.al HO_0))), Sq.bl HB, by repeat (first | (with_reducible first | exact HK.out | apply Kept.alloc | apply Kept.drewN | apply Kept.drew) | exact HK.out)⟩
end Go.Proofs.Ytaclkccgjpjdjaa.N
