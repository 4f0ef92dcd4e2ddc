import Derived.Test.YtaclkccgjpjdjaaQIntegerSumsBSx0
import Derived.Test.YtaclkccgjpjdjaaQIntegerSumsBSx1
import Derived.Test.YtaclkccgjpjdjaaQIntegerSumsM0
namespace Go.Proofs.Ytaclkccgjpjdjaa.BS
open Go.RowKit Go.Proofs.YtaclkccgjpjdjaaW.PrintWords Go.Proofs.YtaclkccgjpjdjaaW.PrintLast Go.Proofs.YtaclkccgjpjdjaaW.PrintMore
attribute [local go_sem] max2_int min2_int max_two min_two max_three min_three max_four min_four   -- for this text's walks alone
set_option linter.unusedVariables false
set_option linter.unusedSimpArgs false
def foliotlaw02_IntegerSums.f (k : Nat) (a0_0 : Bool) (l0_1 : List Int) (a1_0 : Bool) (l1_1 : List Int) : Option (Bool) := (foliotlaw02_few.f a0_0 l0_1 a1_0 l1_1).bind fun t161 => (if t161 = true then ((integer_Norm.f a0_0 l0_1).bind fun bt162 => ((foliotref02_Norm.f a0_0 l0_1).bind fun bt166 => ((foliotlaw02_same.f k bt162.1 bt162.2 bt166.1 bt166.2).bind fun t170 => (if t170 = true then ((integer_Add.f a0_0 l0_1 a1_0 l1_1).bind fun bt171 => ((foliotref02_Add.f a0_0 l0_1 a1_0 l1_1).bind fun bt175 => ((foliotlaw02_same.f k bt171.1 bt171.2 bt175.1 bt175.2).bind fun t179 => (if t179 = true then ((integer_Sub.f a0_0 l0_1 a1_0 l1_1).bind fun bt180 => ((foliotref02_Sub.f a0_0 l0_1 a1_0 l1_1).bind fun bt184 => ((foliotlaw02_same.f k bt180.1 bt180.2 bt184.1 bt184.2).bind fun t188 => (if t188 = true then ((integer_Mul.f a0_0 l0_1 a1_0 l1_1).bind fun bt189 => ((foliotref02_Mul.f a0_0 l0_1 a1_0 l1_1).bind fun bt193 => ((foliotlaw02_same.f k bt189.1 bt189.2 bt193.1 bt193.2).bind fun t197 => (if t197 = true then ((integer_Neg.f a0_0 l0_1).bind fun bt198 => ((foliotref02_Neg.f a0_0 l0_1).bind fun bt202 => ((foliotlaw02_same.f k bt198.1 bt198.2 bt202.1 bt202.2).bind fun t206 => (if t206 = true then ((integer_Cmp.f a0_0 l0_1 a1_0 l1_1).bind fun t207 => ((foliotref02_Cmp.f a0_0 l0_1 a1_0 l1_1).bind fun t208 => (if t207 = t208 then ((integer_Sign.f a0_0 l0_1).bind fun t209 => ((foliotref02_Sign.f a0_0 l0_1).bind fun t210 => (if t209 = t210 then ((foliotlaw02_awake.f).bind fun t211 => (some t211)) else (none)))) else (none)))) else (none))))) else (none))))) else (none))))) else (none))))) else (none))))) else (some true))
def foliotlaw02_IntegerSums.T3 : Bool × List (List Nat × List Nat) := (true, [([], []), ([0], [0]), ([], []), ([2, 1], [2]), ([1, 3, 3], [1, 3]), ([4, 4], [4]), ([5], [5]), ([5], [5]), ([6, 7, 5, 5], [5, 6, 7]), ([5], [5]), ([5], [5]), ([9, 10, 8, 5], [5, 9, 10]), ([8, 11, 11, 5], [5, 8, 11]), ([5, 12], [5, 12]), ([13, 12], [13]), ([14], [14]), ([14], [14]), ([15, 16, 14, 14], [14, 15, 16]), ([14], [14]), ([14], [14]), ([18, 19, 17, 14], [14, 18, 19]), ([17, 20, 20, 14], [14, 17, 20]), ([14, 21], [14, 21]), ([22, 21], [22]), ([23], [23]), ([23], [23]), ([24, 25, 23, 23], [23, 24, 25]), ([23], [23]), ([23], [23]), ([27, 28, 26, 23], [23, 27, 28]), ([26, 29, 29, 23], [23, 26, 29]), ([23, 30], [23, 30]), ([31, 30], [31]), ([32], [32]), ([33, 32, 32], [32, 33]), ([32], [32]), ([35, 34, 32], [32, 35]), ([34, 36, 36, 32], [32, 34, 36]), ([32, 37], [32, 37]), ([38, 37], [38]), ([39], [39]), ([39], [39]), ([40, 41, 39, 39], [39, 40, 41]), ([39], [39]), ([39], [39]), ([43, 44, 42, 39], [39, 43, 44]), ([42, 45, 39], [39, 42, 45]), ([39, 46], [39, 46]), ([47, 45], [47]), ([48], [48]), ([49, 48, 48], [48, 49]), ([48], [48]), ([51, 50, 48], [48, 51]), ([50, 52, 48], [48, 50, 52]), ([48, 53], [48, 53]), ([54, 52], [54]), ([55, 55], [55]), ([55, 56], [55, 56]), ([57, 56, 0, 1, 2, 3, 4, 5, 6, 7, 8, 9, 10, 11, 12, 13, 14, 15, 16, 17, 18, 19, 20, 21, 22, 23, 24, 25, 26, 27, 28, 29, 30, 31, 32, 33, 34, 35, 36, 37, 38, 39, 40, 41, 42, 43, 44, 45, 46, 47, 48, 49, 50, 51, 52, 53, 54, 55, 56, 57], [57])])
def foliotlaw02_IntegerSums.B3 : List Nat := [0, 1, 0, 7, 15, 31, 63, 63, 255, 63, 63, 2047, 4095, 8191, 16383, 32767, 32767, 131071, 32767, 32767, 1048575, 2097151, 4194303, 8388607, 16777215, 16777215, 67108863, 16777215, 16777215, 536870911, 1073741823, 2147483647, 4294967295, 8589934591, 17179869183, 8589934591, 68719476735, 137438953471, 274877906943, 549755813887, 1099511627775, 1099511627775, 4398046511103, 1099511627775, 1099511627775, 35184372088831, 70368744177663, 140737488355327, 281474976710655, 562949953421311, 1125899906842623, 562949953421311, 4503599627370495, 9007199254740991, 18014398509481983, 36028797018963967, 72057594037927935, 144115188075855871, 288230376151711743]
theorem foliotlaw02_IntegerSums.tab3 : rtab .any (opsOf Try.f16 3) = foliotlaw02_IntegerSums.T3 := by kernel_rfl
theorem foliotlaw02_IntegerSums.bits3 : waitsOk foliotlaw02_IntegerSums.T3.2 foliotlaw02_IntegerSums.B3 = true := by kernel_rfl
set_option maxHeartbeats 8000000 in
set_option maxRecDepth 100000 in
theorem foliotlaw02_IntegerSums.calls (k : Nat) (a0_0 : Bool) (A0_1 : Option Addr) (c0_1 : Nat) (l0_1 : List Int) (a1_0 : Bool) (A1_1 : Option Addr) (c1_1 : Nat) (l1_1 : List Int) (r : Bool) (w : World) (hr0_1 : Kd.C (Kd.int .u32) w A0_1 l0_1.length l0_1) (hc0_1 : l0_1.length ≤ c0_1) (hr1_1 : Kd.C (Kd.int .u32) w A1_1 l1_1.length l1_1) (hc1_1 : l1_1.length ≤ c1_1) (h : foliotlaw02_IntegerSums.f k a0_0 l0_1 a1_0 l1_1 = some r) :
  Calls Try.prog 16 #[.agg #[.bool a0_0, .slice A0_1 l0_1.length c0_1], .agg #[.bool a1_0, .slice A1_1 l1_1.length c1_1]] w fun e w' => e = .returned (.bool r) ∧ Below w.heap.size w w' := by
 have hu39 := Try.underlying39
 have HR0_1 := Aside0.mk hr0_1
 have HC0_1 := Aside0.mk hc0_1
 clear hr0_1 hc0_1
 have HR1_1 := Aside0.mk hr1_1
 have HC1_1 := Aside0.mk hc1_1
 clear hr1_1 hc1_1
 have HB := Aside0.mk (Below.refl w.heap.size w)
 have H : ((foliotlaw02_few.f a0_0 l0_1 a1_0 l1_1).bind fun t161 => (if t161 = true then ((integer_Norm.f a0_0 l0_1).bind fun bt162 => ((foliotref02_Norm.f a0_0 l0_1).bind fun bt166 => ((foliotlaw02_same.f k bt162.1 bt162.2 bt166.1 bt166.2).bind fun t170 => (if t170 = true then ((integer_Add.f a0_0 l0_1 a1_0 l1_1).bind fun bt171 => ((foliotref02_Add.f a0_0 l0_1 a1_0 l1_1).bind fun bt175 => ((foliotlaw02_same.f k bt171.1 bt171.2 bt175.1 bt175.2).bind fun t179 => (if t179 = true then ((integer_Sub.f a0_0 l0_1 a1_0 l1_1).bind fun bt180 => ((foliotref02_Sub.f a0_0 l0_1 a1_0 l1_1).bind fun bt184 => ((foliotlaw02_same.f k bt180.1 bt180.2 bt184.1 bt184.2).bind fun t188 => (if t188 = true then ((integer_Mul.f a0_0 l0_1 a1_0 l1_1).bind fun bt189 => ((foliotref02_Mul.f a0_0 l0_1 a1_0 l1_1).bind fun bt193 => ((foliotlaw02_same.f k bt189.1 bt189.2 bt193.1 bt193.2).bind fun t197 => (if t197 = true then ((integer_Neg.f a0_0 l0_1).bind fun bt198 => ((foliotref02_Neg.f a0_0 l0_1).bind fun bt202 => ((foliotlaw02_same.f k bt198.1 bt198.2 bt202.1 bt202.2).bind fun t206 => (if t206 = true then ((integer_Cmp.f a0_0 l0_1 a1_0 l1_1).bind fun t207 => ((foliotref02_Cmp.f a0_0 l0_1 a1_0 l1_1).bind fun t208 => (if t207 = t208 then ((integer_Sign.f a0_0 l0_1).bind fun t209 => ((foliotref02_Sign.f a0_0 l0_1).bind fun t210 => (if t209 = t210 then ((foliotlaw02_awake.f).bind fun t211 => (some t211)) else (none)))) else (none)))) else (none))))) else (none))))) else (none))))) else (none))))) else (none))))) else (some true))) = some r := h
 clear h
 replace H := Sq.bd H
 obtain ⟨t161, A3, H⟩ := H
 (try dsimp -simprocs only at H)
 by_cases c4 : t161 = true
 ·subst c4
  have H1 : ((integer_Norm.f a0_0 l0_1).bind fun bt162 => ((foliotref02_Norm.f a0_0 l0_1).bind fun bt166 => ((foliotlaw02_same.f k bt162.1 bt162.2 bt166.1 bt166.2).bind fun t170 => (if t170 = true then ((integer_Add.f a0_0 l0_1 a1_0 l1_1).bind fun bt171 => ((foliotref02_Add.f a0_0 l0_1 a1_0 l1_1).bind fun bt175 => ((foliotlaw02_same.f k bt171.1 bt171.2 bt175.1 bt175.2).bind fun t179 => (if t179 = true then ((integer_Sub.f a0_0 l0_1 a1_0 l1_1).bind fun bt180 => ((foliotref02_Sub.f a0_0 l0_1 a1_0 l1_1).bind fun bt184 => ((foliotlaw02_same.f k bt180.1 bt180.2 bt184.1 bt184.2).bind fun t188 => (if t188 = true then ((integer_Mul.f a0_0 l0_1 a1_0 l1_1).bind fun bt189 => ((foliotref02_Mul.f a0_0 l0_1 a1_0 l1_1).bind fun bt193 => ((foliotlaw02_same.f k bt189.1 bt189.2 bt193.1 bt193.2).bind fun t197 => (if t197 = true then ((integer_Neg.f a0_0 l0_1).bind fun bt198 => ((foliotref02_Neg.f a0_0 l0_1).bind fun bt202 => ((foliotlaw02_same.f k bt198.1 bt198.2 bt202.1 bt202.2).bind fun t206 => (if t206 = true then ((integer_Cmp.f a0_0 l0_1 a1_0 l1_1).bind fun t207 => ((foliotref02_Cmp.f a0_0 l0_1 a1_0 l1_1).bind fun t208 => (if t207 = t208 then ((integer_Sign.f a0_0 l0_1).bind fun t209 => ((foliotref02_Sign.f a0_0 l0_1).bind fun t210 => (if t209 = t210 then ((foliotlaw02_awake.f).bind fun t211 => (some t211)) else (none)))) else (none)))) else (none))))) else (none))))) else (none))))) else (none))))) else (none))))) = some r := by rw [if_pos rfl] at H; exact H
  clear H
  have H := H1
  clear H1
  replace H := Sq.bd H
  obtain ⟨⟨t162, t163⟩, A5, H⟩ := H
  (try dsimp -simprocs only at H)
  replace H := Sq.bd H
  obtain ⟨⟨t166, t167⟩, A6, H⟩ := H
  (try dsimp -simprocs only at H)
  replace H := Sq.bd H
  obtain ⟨t170, A7, H⟩ := H
  (try dsimp -simprocs only at H)
  by_cases c8 : t170 = true
  ·subst c8
   have H1 : ((integer_Add.f a0_0 l0_1 a1_0 l1_1).bind fun bt171 => ((foliotref02_Add.f a0_0 l0_1 a1_0 l1_1).bind fun bt175 => ((foliotlaw02_same.f k bt171.1 bt171.2 bt175.1 bt175.2).bind fun t179 => (if t179 = true then ((integer_Sub.f a0_0 l0_1 a1_0 l1_1).bind fun bt180 => ((foliotref02_Sub.f a0_0 l0_1 a1_0 l1_1).bind fun bt184 => ((foliotlaw02_same.f k bt180.1 bt180.2 bt184.1 bt184.2).bind fun t188 => (if t188 = true then ((integer_Mul.f a0_0 l0_1 a1_0 l1_1).bind fun bt189 => ((foliotref02_Mul.f a0_0 l0_1 a1_0 l1_1).bind fun bt193 => ((foliotlaw02_same.f k bt189.1 bt189.2 bt193.1 bt193.2).bind fun t197 => (if t197 = true then ((integer_Neg.f a0_0 l0_1).bind fun bt198 => ((foliotref02_Neg.f a0_0 l0_1).bind fun bt202 => ((foliotlaw02_same.f k bt198.1 bt198.2 bt202.1 bt202.2).bind fun t206 => (if t206 = true then ((integer_Cmp.f a0_0 l0_1 a1_0 l1_1).bind fun t207 => ((foliotref02_Cmp.f a0_0 l0_1 a1_0 l1_1).bind fun t208 => (if t207 = t208 then ((integer_Sign.f a0_0 l0_1).bind fun t209 => ((foliotref02_Sign.f a0_0 l0_1).bind fun t210 => (if t209 = t210 then ((foliotlaw02_awake.f).bind fun t211 => (some t211)) else (none)))) else (none)))) else (none))))) else (none))))) else (none))))) else (none))))) = some r := by rw [if_pos rfl] at H; exact H
   clear H
   have H := H1
   clear H1
   replace H := Sq.bd H
   obtain ⟨⟨t171, t172⟩, A9, H⟩ := H
   (try dsimp -simprocs only at H)
   replace H := Sq.bd H
   obtain ⟨⟨t175, t176⟩, A10, H⟩ := H
   (try dsimp -simprocs only at H)
   replace H := Sq.bd H
   obtain ⟨t179, A11, H⟩ := H
   (try dsimp -simprocs only at H)
   by_cases c12 : t179 = true
   ·subst c12
    have H1 : ((integer_Sub.f a0_0 l0_1 a1_0 l1_1).bind fun bt180 => ((foliotref02_Sub.f a0_0 l0_1 a1_0 l1_1).bind fun bt184 => ((foliotlaw02_same.f k bt180.1 bt180.2 bt184.1 bt184.2).bind fun t188 => (if t188 = true then ((integer_Mul.f a0_0 l0_1 a1_0 l1_1).bind fun bt189 => ((foliotref02_Mul.f a0_0 l0_1 a1_0 l1_1).bind fun bt193 => ((foliotlaw02_same.f k bt189.1 bt189.2 bt193.1 bt193.2).bind fun t197 => (if t197 = true then ((integer_Neg.f a0_0 l0_1).bind fun bt198 => ((foliotref02_Neg.f a0_0 l0_1).bind fun bt202 => ((foliotlaw02_same.f k bt198.1 bt198.2 bt202.1 bt202.2).bind fun t206 => (if t206 = true then ((integer_Cmp.f a0_0 l0_1 a1_0 l1_1).bind fun t207 => ((foliotref02_Cmp.f a0_0 l0_1 a1_0 l1_1).bind fun t208 => (if t207 = t208 then ((integer_Sign.f a0_0 l0_1).bind fun t209 => ((foliotref02_Sign.f a0_0 l0_1).bind fun t210 => (if t209 = t210 then ((foliotlaw02_awake.f).bind fun t211 => (some t211)) else (none)))) else (none)))) else (none))))) else (none))))) else (none))))) = some r := by rw [if_pos rfl] at H; exact H
    clear H
    have H := H1
    clear H1
    replace H := Sq.bd H
    obtain ⟨⟨t180, t181⟩, A13, H⟩ := H
    (try dsimp -simprocs only at H)
    replace H := Sq.bd H
    obtain ⟨⟨t184, t185⟩, A14, H⟩ := H
    (try dsimp -simprocs only at H)
    replace H := Sq.bd H
    obtain ⟨t188, A15, H⟩ := H
    (try dsimp -simprocs only at H)
    by_cases c16 : t188 = true
    ·subst c16
     have H1 : ((integer_Mul.f a0_0 l0_1 a1_0 l1_1).bind fun bt189 => ((foliotref02_Mul.f a0_0 l0_1 a1_0 l1_1).bind fun bt193 => ((foliotlaw02_same.f k bt189.1 bt189.2 bt193.1 bt193.2).bind fun t197 => (if t197 = true then ((integer_Neg.f a0_0 l0_1).bind fun bt198 => ((foliotref02_Neg.f a0_0 l0_1).bind fun bt202 => ((foliotlaw02_same.f k bt198.1 bt198.2 bt202.1 bt202.2).bind fun t206 => (if t206 = true then ((integer_Cmp.f a0_0 l0_1 a1_0 l1_1).bind fun t207 => ((foliotref02_Cmp.f a0_0 l0_1 a1_0 l1_1).bind fun t208 => (if t207 = t208 then ((integer_Sign.f a0_0 l0_1).bind fun t209 => ((foliotref02_Sign.f a0_0 l0_1).bind fun t210 => (if t209 = t210 then ((foliotlaw02_awake.f).bind fun t211 => (some t211)) else (none)))) else (none)))) else (none))))) else (none))))) = some r := by rw [if_pos rfl] at H; exact H
     clear H
     have H := H1
     clear H1
     replace H := Sq.bd H
     obtain ⟨⟨t189, t190⟩, A17, H⟩ := H
     (try dsimp -simprocs only at H)
     replace H := Sq.bd H
     obtain ⟨⟨t193, t194⟩, A18, H⟩ := H
     (try dsimp -simprocs only at H)
     replace H := Sq.bd H
     obtain ⟨t197, A19, H⟩ := H
     (try dsimp -simprocs only at H)
     by_cases c20 : t197 = true
     ·subst c20
      have H1 : ((integer_Neg.f a0_0 l0_1).bind fun bt198 => ((foliotref02_Neg.f a0_0 l0_1).bind fun bt202 => ((foliotlaw02_same.f k bt198.1 bt198.2 bt202.1 bt202.2).bind fun t206 => (if t206 = true then ((integer_Cmp.f a0_0 l0_1 a1_0 l1_1).bind fun t207 => ((foliotref02_Cmp.f a0_0 l0_1 a1_0 l1_1).bind fun t208 => (if t207 = t208 then ((integer_Sign.f a0_0 l0_1).bind fun t209 => ((foliotref02_Sign.f a0_0 l0_1).bind fun t210 => (if t209 = t210 then ((foliotlaw02_awake.f).bind fun t211 => (some t211)) else (none)))) else (none)))) else (none))))) = some r := by rw [if_pos rfl] at H; exact H
      clear H
      have H := H1
      clear H1
      replace H := Sq.bd H
      obtain ⟨⟨t198, t199⟩, A21, H⟩ := H
      (try dsimp -simprocs only at H)
      replace H := Sq.bd H
      obtain ⟨⟨t202, t203⟩, A22, H⟩ := H
      (try dsimp -simprocs only at H)
      replace H := Sq.bd H
      obtain ⟨t206, A23, H⟩ := H
      (try dsimp -simprocs only at H)
      by_cases c24 : t206 = true
      ·subst c24
       have H1 : ((integer_Cmp.f a0_0 l0_1 a1_0 l1_1).bind fun t207 => ((foliotref02_Cmp.f a0_0 l0_1 a1_0 l1_1).bind fun t208 => (if t207 = t208 then ((integer_Sign.f a0_0 l0_1).bind fun t209 => ((foliotref02_Sign.f a0_0 l0_1).bind fun t210 => (if t209 = t210 then ((foliotlaw02_awake.f).bind fun t211 => (some t211)) else (none)))) else (none)))) = some r := by rw [if_pos rfl] at H; exact H
       clear H
       have H := H1
       clear H1
       replace H := Sq.bd H
       obtain ⟨t207, A25, H⟩ := H
       (try dsimp -simprocs only at H)
       replace H := Sq.bd H
       obtain ⟨t208, A26, H⟩ := H
       (try dsimp -simprocs only at H)
       by_cases c27 : t207 = t208
       ·rw [if_pos c27] at H
        have c27b0 : (t207 == t208) = true := beq_iff_eq.mpr c27
        have c27b1 : (t207 != t208) = false := bne_eq_false_iff_eq.mpr c27
        clear c27
        replace H := Sq.bd H
        obtain ⟨t209, A28, H⟩ := H
        (try dsimp -simprocs only at H)
        replace H := Sq.bd H
        obtain ⟨t210, A29, H⟩ := H
        (try dsimp -simprocs only at H)
        by_cases c30 : t209 = t210
        ·rw [if_pos c30] at H
         have c30b0 : (t209 == t210) = true := beq_iff_eq.mpr c30
         have c30b1 : (t209 != t210) = false := bne_eq_false_iff_eq.mpr c30
         clear c30
         replace H := Sq.bd H
         obtain ⟨t211, A31, H⟩ := H
         (try dsimp -simprocs only at H)
         obtain rfl := Option.some.inj H
         go_enter Try.func16, Try.ntmps16
         try go_wp2_with (first | ((with_reducible refine gate_dst (N := 2) rfl ?_); refine box_event ?hg (N := 2) ?hd (cs := #[.bool a0_0, .slice A0_1 l0_1.length c0_1]) (t := 39) ?hr ?_; (case hd => rfl); (case hg => rfl); (case hr => first | (go_simp; done) | (go_simp; rfl)); intro gb159 hg w32 hbox hb; have BK159 := Aside0.mk (hbox); have GW159 := Sq.gw HB hg; have GE159 := Sq.gw HB hg; replace HB := Sq.bs HB hb; clear hb hbox hg) | ((with_reducible refine gate_dst (N := 3) rfl ?_); refine box_event ?hg (N := 3) ?hd (cs := #[.bool a1_0, .slice A1_1 l1_1.length c1_1]) (t := 39) ?hr ?_; (case hd => rfl); (case hg => rfl); (case hr => first | (go_simp; done) | (go_simp; rfl)); intro gb160 hg w33 hbox hb; have BK160 := Aside0.mk (hbox); have GW160 := Sq.gw HB hg; have GE160 := Sq.gw HB hg; have NB159_160 := Sq.nl BK159 hg; have NB160_159 := Sq.ng BK159 hg; replace BK159 := Sq.bb BK159 hb; replace HB := Sq.bs HB hb; clear hb hbox hg; have hnb34 := NB159_160.out; have hnc34 := NB160_159.out; have hcz35_0 := Sq.bc BK159 0 (.bool a0_0); have hcz35_1 := Sq.bc BK159 1 (.slice A0_1 l0_1.length c0_1); have hfz35_0 := blk_frozen BK159.out 0; have hfz35_1 := blk_frozen BK159.out 1; have hcz36_0 := Sq.bc BK160 0 (.bool a1_0); have hcz36_1 := Sq.bc BK160 1 (.slice A1_1 l1_1.length c1_1); have hfz36_0 := blk_frozen BK160.out 0; have hfz36_1 := blk_frozen BK160.out 1) | ((with_reducible refine gate_callee (f := 53) rfl ?_); refine Sq.gl (some 7) Try.func53 #[.agg #[.bool a0_0, .slice A0_1 l0_1.length c0_1], .agg #[.bool a1_0, .slice A1_1 l1_1.length c1_1]] ?_; (with_reducible refine (foliotlaw02_few.calls a0_0 _ _ l0_1 a1_0 _ _ l1_1 true _ ?side1 ?side2 ?side3 ?side4 A3.out).mono ?_); (case side1 => exact Sq.ca (Kd.C_below HR0_1.out HB.out)); (case side2 => exact HC0_1.out); (case side3 => exact Sq.ca (Kd.C_below HR1_1.out HB.out)); (case side4 => exact HC1_1.out); rintro e w37 ⟨rfl, hb⟩; refine ⟨_, rfl, ?_⟩; replace BK159 := Sq.bb BK159 hb; replace BK160 := Sq.bb BK160 hb; replace HB := Sq.bs HB hb; (try clear hb); (try clear hb2); (try clear hk); (try clear hi)))
         replace BK159 := Aside0.mk (blk_drew BK159.out)
         replace BK160 := Aside0.mk (blk_drew BK160.out)
         replace HB := Aside0.mk (below_drew1 HB.out)
         refine start_ (n := 59) (S := fun w' => w'.cell? ⟨gb159, 0, none⟩ = some (.bool a0_0) ∧ w'.cell? ⟨gb159, 1, none⟩ = some (.slice A0_1 l0_1.length c0_1) ∧ w'.cell? ⟨gb160, 0, none⟩ = some (.bool a1_0) ∧ w'.cell? ⟨gb160, 1, none⟩ = some (.slice A1_1 l1_1.length c1_1)) (ds := []) #[false, false, false, false, false, false, false, false, false, false, false, false, false, false, false, false, false, false, false, false, false, false, false, false, false, false, false, false, false, false, false, false, false, false, false, false, false, false, false, false, false, false, false, false, false, false, false, false, false, false, false, false, false, false, false, false, false, false, false] (by kernel_rfl) rfl rfl ⟨(blk_cell BK159.out 0).trans rfl, (blk_cell BK159.out 1).trans rfl, (blk_cell BK160.out 0).trans rfl, (blk_cell BK160.out 1).trans rfl⟩ (fun hHeld => ?_); refine with_tabW foliotlaw02_IntegerSums.tab3 foliotlaw02_IntegerSums.bits3 (fun HT_ HW_ => ?_)
         generalize w37.drew = w38 at BK159 BK160 HB hHeld ⊢
         refine Sq.tk (v := ?_) (a' := ?_) 0 (some 9) #[true, false, false, false, false, false, false, false, false, false, false, false, false, false, false, false, false, false, false, false, false, false, false, false, false, false, false, false, false, false, false, false, false, false, false, false, false, false, false, false, false, false, false, false, false, false, false, false, false, false, false, false, false, false, false, false, false, false, false] HT_ HW_ hHeld ?_ ?_ ?_
         rotate_left
         ·rintro w' ⟨s0, s1, s2, s3⟩
          go_simp
          with_reducible rfl
         rotate_left
         ·simp only [Act.put, List.setIfInBounds_toArray, List.set_cons_zero, List.set_cons_succ, i64_w, i32_w]
          rfl
         refine Sq.tk (v := ?_) (a' := ?_) 2 (some 11) #[true, false, true, false, false, false, false, false, false, false, false, false, false, false, false, false, false, false, false, false, false, false, false, false, false, false, false, false, false, false, false, false, false, false, false, false, false, false, false, false, false, false, false, false, false, false, false, false, false, false, false, false, false, false, false, false, false, false, false] HT_ HW_ hHeld ?_ ?_ ?_
         rotate_left
         ·rintro w' ⟨s0, s1, s2, s3⟩
          go_simp
          with_reducible rfl
         rotate_left
         ·simp only [Act.put, List.setIfInBounds_toArray, List.set_cons_zero, List.set_cons_succ, i64_w, i32_w]
          rfl
         refine one_ (i := 1) (N := some 10) #[true, true, true, false, false, false, false, false, false, false, false, false, false, false, false, false, false, false, false, false, false, false, false, false, false, false, false, false, false, false, false, false, false, false, false, false, false, false, false, false, false, false, false, false, false, false, false, false, false, false, false, false, false, false, false, false, false, false, false] rfl rfl (one_of HT_.out (by kernel_rfl)) (by decide) (fun K hK => ?_)
         refine goes_ Try.func62 (by kernel_rfl) rfl #[.agg #[.bool a0_0, .slice A0_1 l0_1.length c0_1]] (by rfl) rfl rfl (by (try simp only [List.map_toArray, List.map_cons, List.map_nil]); first | done | rfl | (simp only [List.length_drop, List.length_take]; rfl)) ?_
         with_reducible refine (integer_Norm.calls a0_0 _ _ l0_1 t162 t163 _ ?side1 ?side2 A5.out).mono ?_
         (case side1 => exact Sq.ca (Kd.C_below HR0_1.out HB.out))
         (case side2 => exact HC0_1.out)
         rintro e w39 ⟨v164, rfl, ho0, hb⟩
         refine ⟨_, rfl, ?_⟩
         have HO165 := Aside0.mk (Kd.R_lower ho0 (below_size (Sq.bl HB)))
         replace BK159 := Sq.bb BK159 hb
         replace BK160 := Sq.bb BK160 hb
         replace HB := Sq.bs HB hb
         (try clear hb)
         (try clear hb2)
         (try clear hk)
         (try clear hi)
         (try clear ho0)
         refine hK.out _ _ ⟨(blk_cell BK159.out 0).trans rfl, (blk_cell BK159.out 1).trans rfl, (blk_cell BK160.out 0).trans rfl, (blk_cell BK160.out 1).trans rfl⟩ (fun hHeld => ?_)
         clear hK K
         refine norm_ (a' := ?_) ?_ ?_
         rotate_left
         ·show Act.put _ (some 10) _ = _
          simp only [Act.put, List.setIfInBounds_toArray, List.set_cons_zero, List.set_cons_succ, i64_w, i32_w]
          rfl
         refine one_ (i := 3) (N := some 12) #[true, true, true, true, false, false, false, false, false, false, false, false, false, false, false, false, false, false, false, false, false, false, false, false, false, false, false, false, false, false, false, false, false, false, false, false, false, false, false, false, false, false, false, false, false, false, false, false, false, false, false, false, false, false, false, false, false, false, false] rfl rfl (one_of HT_.out (by kernel_rfl)) (by decide) (fun K hK => ?_)
         refine goes_ Try.func73 (by kernel_rfl) rfl #[.agg #[.bool a0_0, .slice A0_1 l0_1.length c0_1]] (by rfl) rfl rfl (by (try simp only [List.map_toArray, List.map_cons, List.map_nil]); first | done | rfl | (simp only [List.length_drop, List.length_take]; rfl)) ?_
         with_reducible refine (foliotref02_Norm.calls a0_0 _ _ l0_1 t166 t167 _ ?side1 ?side2 A6.out).mono ?_
         (case side1 => exact Sq.ca (Kd.C_below HR0_1.out HB.out))
         (case side2 => exact HC0_1.out)
         rintro e w40 ⟨v168, rfl, ho0, hb⟩
         refine ⟨_, rfl, ?_⟩
         have HO169 := Aside0.mk (Kd.R_lower (Kd.R_new' ho0 (Kd.R_lt (Sq.al HO165))) (below_size (Sq.bl HB)))
         replace BK159 := Sq.bb BK159 hb
         replace BK160 := Sq.bb BK160 hb
         replace HO165 := Aside0.mk (Kd.R_elder' (Sq.al HO165) (Kd.R_base ho0) hb)
         replace HB := Sq.bs HB hb
         (try clear hb)
         (try clear hb2)
         (try clear hk)
         (try clear hi)
         (try clear ho0)
         obtain ⟨Ao41, co41, eo41⟩ := Kd.R_slice HO165.out
         (first | subst eo41 | (injection eo41 with f1_ f2_ f3_; have f4_ := f1_.symm; have f5_ := f3_.symm; clear f1_ f2_ f3_; subst f4_; subst f5_))
         obtain ⟨Ao42, co42, eo42⟩ := Kd.R_slice HO169.out
         (first | subst eo42 | (injection eo42 with f1_ f2_ f3_; have f4_ := f1_.symm; have f5_ := f3_.symm; clear f1_ f2_ f3_; subst f4_; subst f5_))
         refine hK.out _ _ ⟨(blk_cell BK159.out 0).trans rfl, (blk_cell BK159.out 1).trans rfl, (blk_cell BK160.out 0).trans rfl, (blk_cell BK160.out 1).trans rfl⟩ (fun hHeld => ?_)
         clear hK K
         refine norm_ (a' := ?_) ?_ ?_
         rotate_left
         ·show Act.put _ (some 12) _ = _
          simp only [Act.put, List.setIfInBounds_toArray, List.set_cons_zero, List.set_cons_succ, i64_w, i32_w]
          rfl
         refine one_ (i := 4) (N := some 13) #[true, true, true, true, true, false, false, false, false, false, false, false, false, false, false, false, false, false, false, false, false, false, false, false, false, false, false, false, false, false, false, false, false, false, false, false, false, false, false, false, false, false, false, false, false, false, false, false, false, false, false, false, false, false, false, false, false, false, false] rfl rfl (one_of HT_.out (by kernel_rfl)) (by decide) (fun K hK => ?_)
         refine goes_ Try.func56 (by kernel_rfl) rfl #[.agg #[.bool t162, .slice Ao41 t163.length co41], .agg #[.bool t166, .slice Ao42 t167.length co42]] (by rfl) rfl rfl (by (try simp only [List.map_toArray, List.map_cons, List.map_nil]); first | done | rfl | (simp only [List.length_drop, List.length_take]; rfl)) ?_
         with_reducible refine (foliotlaw02_same.calls k t162 _ _ t163 t166 _ _ t167 true _ ?side1 ?side2 ?side3 ?side4 A7.out).mono ?_
         (case side1 => exact Sq.ca (Kd.R_reads' HO165.out).2.2)
         (case side2 => exact (Kd.R_reads' HO165.out).2.1)
         (case side3 => exact Sq.ca (Kd.R_reads' HO169.out).2.2)
         (case side4 => exact (Kd.R_reads' HO169.out).2.1)
         rintro e w43 ⟨rfl, hb⟩
         refine ⟨_, rfl, ?_⟩
         replace HO165 := Aside0.mk (Kd.R_below (Sq.al HO165) hb)
         replace HO169 := Aside0.mk (Kd.R_below (Sq.al HO169) hb)
         replace BK159 := Sq.bb BK159 hb
         replace BK160 := Sq.bb BK160 hb
         replace HB := Sq.bs HB hb
         (try clear hb)
         (try clear hb2)
         (try clear hk)
         (try clear hi)
         refine hK.out _ _ ⟨(blk_cell BK159.out 0).trans rfl, (blk_cell BK159.out 1).trans rfl, (blk_cell BK160.out 0).trans rfl, (blk_cell BK160.out 1).trans rfl⟩ (fun hHeld => ?_)
         clear hK K
         refine norm_ (a' := ?_) ?_ ?_
         rotate_left
         ·show Act.put _ (some 13) _ = _
          simp only [Act.put, List.setIfInBounds_toArray, List.set_cons_zero, List.set_cons_succ, i64_w, i32_w]
          rfl
         refine Sq.pu (v := ?_) (a' := ?_) 5 (some 14) #[true, true, true, true, true, true, false, false, false, false, false, false, false, false, false, false, false, false, false, false, false, false, false, false, false, false, false, false, false, false, false, false, false, false, false, false, false, false, false, false, false, false, false, false, false, false, false, false, false, false, false, false, false, false, false, false, false, false, false] HT_ ?_ ?_ ?_
         rotate_left
         ·intro w'
          go_simp
          with_reducible rfl
         rotate_left
         ·simp only [Act.put, List.setIfInBounds_toArray, List.set_cons_zero, List.set_cons_succ, i64_w, i32_w]
          rfl
         refine Sq.tk (v := ?_) (a' := ?_) 6 (some 15) #[true, true, true, true, true, true, true, false, false, false, false, false, false, false, false, false, false, false, false, false, false, false, false, false, false, false, false, false, false, false, false, false, false, false, false, false, false, false, false, false, false, false, false, false, false, false, false, false, false, false, false, false, false, false, false, false, false, false, false] HT_ HW_ hHeld ?_ ?_ ?_
         rotate_left
         ·rintro w' ⟨s0, s1, s2, s3⟩
          go_simp
          with_reducible rfl
         rotate_left
         ·simp only [Act.put, List.setIfInBounds_toArray, List.set_cons_zero, List.set_cons_succ, i64_w, i32_w]
          rfl
         refine Sq.tk (v := ?_) (a' := ?_) 7 (some 16) #[true, true, true, true, true, true, true, true, false, false, false, false, false, false, false, false, false, false, false, false, false, false, false, false, false, false, false, false, false, false, false, false, false, false, false, false, false, false, false, false, false, false, false, false, false, false, false, false, false, false, false, false, false, false, false, false, false, false, false] HT_ HW_ hHeld ?_ ?_ ?_
         rotate_left
         ·rintro w' ⟨s0, s1, s2, s3⟩
          go_simp
          with_reducible rfl
         rotate_left
         ·simp only [Act.put, List.setIfInBounds_toArray, List.set_cons_zero, List.set_cons_succ, i64_w, i32_w]
          rfl
         refine Sq.tk (v := ?_) (a' := ?_) 9 (some 18) #[true, true, true, true, true, true, true, true, false, true, false, false, false, false, false, false, false, false, false, false, false, false, false, false, false, false, false, false, false, false, false, false, false, false, false, false, false, false, false, false, false, false, false, false, false, false, false, false, false, false, false, false, false, false, false, false, false, false, false] HT_ HW_ hHeld ?_ ?_ ?_
         rotate_left
         ·rintro w' ⟨s0, s1, s2, s3⟩
          go_simp
          with_reducible rfl
         rotate_left
         ·simp only [Act.put, List.setIfInBounds_toArray, List.set_cons_zero, List.set_cons_succ, i64_w, i32_w]
          rfl
         refine Sq.tk (v := ?_) (a' := ?_) 10 (some 19) #[true, true, true, true, true, true, true, true, false, true, true, false, false, false, false, false, false, false, false, false, false, false, false, false, false, false, false, false, false, false, false, false, false, false, false, false, false, false, false, false, false, false, false, false, false, false, false, false, false, false, false, false, false, false, false, false, false, false, false] HT_ HW_ hHeld ?_ ?_ ?_
         rotate_left
         ·rintro w' ⟨s0, s1, s2, s3⟩
          go_simp
          with_reducible rfl
         rotate_left
         ·simp only [Act.put, List.setIfInBounds_toArray, List.set_cons_zero, List.set_cons_succ, i64_w, i32_w]
          rfl
         refine one_ (i := 8) (N := some 17) #[true, true, true, true, true, true, true, true, true, true, true, false, false, false, false, false, false, false, false, false, false, false, false, false, false, false, false, false, false, false, false, false, false, false, false, false, false, false, false, false, false, false, false, false, false, false, false, false, false, false, false, false, false, false, false, false, false, false, false] rfl rfl (one_of HT_.out (by kernel_rfl)) (by decide) (fun K hK => ?_)
         refine goes_ Try.func63 (by kernel_rfl) rfl #[.agg #[.bool a0_0, .slice A0_1 l0_1.length c0_1], .agg #[.bool a1_0, .slice A1_1 l1_1.length c1_1]] (by rfl) rfl rfl (by (try simp only [List.map_toArray, List.map_cons, List.map_nil]); first | done | rfl | (simp only [List.length_drop, List.length_take]; rfl)) ?_
         with_reducible refine (integer_Add.calls a0_0 _ _ l0_1 a1_0 _ _ l1_1 t171 t172 _ ?side1 ?side2 ?side3 ?side4 A9.out).mono ?_
         (case side1 => exact Sq.ca (Kd.C_below HR0_1.out HB.out))
         (case side2 => exact HC0_1.out)
         (case side3 => exact Sq.ca (Kd.C_below HR1_1.out HB.out))
         (case side4 => exact HC1_1.out)
         rintro e w44 ⟨v173, rfl, ho0, hb⟩
         refine ⟨_, rfl, ?_⟩
         have HO174 := Aside0.mk (Kd.R_lower (Kd.R_new' (Kd.R_new' ho0 (Kd.R_lt (Sq.al HO165))) (Kd.R_lt (Sq.al HO169))) (below_size (Sq.bl HB)))
         replace BK159 := Sq.bb BK159 hb
         replace BK160 := Sq.bb BK160 hb
         replace HO165 := Aside0.mk (Kd.R_elder' (Sq.al HO165) (Kd.R_base ho0) hb)
         replace HO169 := Aside0.mk (Kd.R_elder' (Sq.al HO169) (Kd.R_base ho0) hb)
         replace HB := Sq.bs HB hb
         (try clear hb)
         (try clear hb2)
         (try clear hk)
         (try clear hi)
         (try clear ho0)
         refine hK.out _ _ ⟨(blk_cell BK159.out 0).trans rfl, (blk_cell BK159.out 1).trans rfl, (blk_cell BK160.out 0).trans rfl, (blk_cell BK160.out 1).trans rfl⟩ (fun hHeld => ?_)
         clear hK K
         refine norm_ (a' := ?_) ?_ ?_
         rotate_left
         ·show Act.put _ (some 17) _ = _
          simp only [Act.put, List.setIfInBounds_toArray, List.set_cons_zero, List.set_cons_succ, i64_w, i32_w]
          rfl
         refine one_ (i := 11) (N := some 20) #[true, true, true, true, true, true, true, true, true, true, true, true, false, false, false, false, false, false, false, false, false, false, false, false, false, false, false, false, false, false, false, false, false, false, false, false, false, false, false, false, false, false, false, false, false, false, false, false, false, false, false, false, false, false, false, false, false, false, false] rfl rfl (one_of HT_.out (by kernel_rfl)) (by decide) (fun K hK => ?_)
         refine goes_ Try.func74 (by kernel_rfl) rfl #[.agg #[.bool a0_0, .slice A0_1 l0_1.length c0_1], .agg #[.bool a1_0, .slice A1_1 l1_1.length c1_1]] (by rfl) rfl rfl (by (try simp only [List.map_toArray, List.map_cons, List.map_nil]); first | done | rfl | (simp only [List.length_drop, List.length_take]; rfl)) ?_
         with_reducible refine (foliotref02_Add.calls a0_0 _ _ l0_1 a1_0 _ _ l1_1 t175 t176 _ ?side1 ?side2 ?side3 ?side4 A10.out).mono ?_
         (case side1 => exact Sq.ca (Kd.C_below HR0_1.out HB.out))
         (case side2 => exact HC0_1.out)
         (case side3 => exact Sq.ca (Kd.C_below HR1_1.out HB.out))
         (case side4 => exact HC1_1.out)
         rintro e w45 ⟨v177, rfl, ho0, hb⟩
         refine ⟨_, rfl, ?_⟩
         have HO178 := Aside0.mk (Kd.R_lower (Kd.R_new' (Kd.R_new' (Kd.R_new' ho0 (Kd.R_lt (Sq.al HO165))) (Kd.R_lt (Sq.al HO169))) (Kd.R_lt (Sq.al HO174))) (below_size (Sq.bl HB)))
         replace BK159 := Sq.bb BK159 hb
         replace BK160 := Sq.bb BK160 hb
         replace HO165 := Aside0.mk (Kd.R_elder' (Sq.al HO165) (Kd.R_base ho0) hb)
         replace HO169 := Aside0.mk (Kd.R_elder' (Sq.al HO169) (Kd.R_base ho0) hb)
         replace HO174 := Aside0.mk (Kd.R_elder' (Sq.al HO174) (Kd.R_base ho0) hb)
         replace HB := Sq.bs HB hb
         (try clear hb)
         (try clear hb2)
         (try clear hk)
         (try clear hi)
         (try clear ho0)
         obtain ⟨Ao46, co46, eo46⟩ := Kd.R_slice HO174.out
         (first | subst eo46 | (injection eo46 with f1_ f2_ f3_; have f4_ := f1_.symm; have f5_ := f3_.symm; clear f1_ f2_ f3_; subst f4_; subst f5_))
         obtain ⟨Ao47, co47, eo47⟩ := Kd.R_slice HO178.out
         (first | subst eo47 | (injection eo47 with f1_ f2_ f3_; have f4_ := f1_.symm; have f5_ := f3_.symm; clear f1_ f2_ f3_; subst f4_; subst f5_))
         refine hK.out _ _ ⟨(blk_cell BK159.out 0).trans rfl, (blk_cell BK159.out 1).trans rfl, (blk_cell BK160.out 0).trans rfl, (blk_cell BK160.out 1).trans rfl⟩ (fun hHeld => ?_)
         clear hK K
         refine norm_ (a' := ?_) ?_ ?_
         rotate_left
         ·show Act.put _ (some 20) _ = _
          simp only [Act.put, List.setIfInBounds_toArray, List.set_cons_zero, List.set_cons_succ, i64_w, i32_w]
          rfl
         refine one_ (i := 12) (N := some 21) #[true, true, true, true, true, true, true, true, true, true, true, true, true, false, false, false, false, false, false, false, false, false, false, false, false, false, false, false, false, false, false, false, false, false, false, false, false, false, false, false, false, false, false, false, false, false, false, false, false, false, false, false, false, false, false, false, false, false, false] rfl rfl (one_of HT_.out (by kernel_rfl)) (by decide) (fun K hK => ?_)
         refine goes_ Try.func56 (by kernel_rfl) rfl #[.agg #[.bool t171, .slice Ao46 t172.length co46], .agg #[.bool t175, .slice Ao47 t176.length co47]] (by rfl) rfl rfl (by (try simp only [List.map_toArray, List.map_cons, List.map_nil]); first | done | rfl | (simp only [List.length_drop, List.length_take]; rfl)) ?_
         with_reducible refine (foliotlaw02_same.calls k t171 _ _ t172 t175 _ _ t176 true _ ?side1 ?side2 ?side3 ?side4 A11.out).mono ?_
         (case side1 => exact Sq.ca (Kd.R_reads' HO174.out).2.2)
         (case side2 => exact (Kd.R_reads' HO174.out).2.1)
         (case side3 => exact Sq.ca (Kd.R_reads' HO178.out).2.2)
         (case side4 => exact (Kd.R_reads' HO178.out).2.1)
         rintro e w48 ⟨rfl, hb⟩
         refine ⟨_, rfl, ?_⟩
         replace HO165 := Aside0.mk (Kd.R_below (Sq.al HO165) hb)
         replace HO169 := Aside0.mk (Kd.R_below (Sq.al HO169) hb)
         replace HO174 := Aside0.mk (Kd.R_below (Sq.al HO174) hb)
         replace HO178 := Aside0.mk (Kd.R_below (Sq.al HO178) hb)
         replace BK159 := Sq.bb BK159 hb
         replace BK160 := Sq.bb BK160 hb
         replace HB := Sq.bs HB hb
         (try clear hb)
         (try clear hb2)
         (try clear hk)
         (try clear hi)
         refine hK.out _ _ ⟨(blk_cell BK159.out 0).trans rfl, (blk_cell BK159.out 1).trans rfl, (blk_cell BK160.out 0).trans rfl, (blk_cell BK160.out 1).trans rfl⟩ (fun hHeld => ?_)
         clear hK K
         refine norm_ (a' := ?_) ?_ ?_
         rotate_left
         ·show Act.put _ (some 21) _ = _
          simp only [Act.put, List.setIfInBounds_toArray, List.set_cons_zero, List.set_cons_succ, i64_w, i32_w]
          rfl
         refine Sq.pu (v := ?_) (a' := ?_) 13 (some 22) #[true, true, true, true, true, true, true, true, true, true, true, true, true, true, false, false, false, false, false, false, false, false, false, false, false, false, false, false, false, false, false, false, false, false, false, false, false, false, false, false, false, false, false, false, false, false, false, false, false, false, false, false, false, false, false, false, false, false, false] HT_ ?_ ?_ ?_
         rotate_left
         ·intro w'
          go_simp
          with_reducible rfl
         rotate_left
         ·simp only [Act.put, List.setIfInBounds_toArray, List.set_cons_zero, List.set_cons_succ, i64_w, i32_w]
          rfl
         refine Sq.pu (v := ?_) (a' := ?_) 14 (some 23) #[true, true, true, true, true, true, true, true, true, true, true, true, true, true, true, false, false, false, false, false, false, false, false, false, false, false, false, false, false, false, false, false, false, false, false, false, false, false, false, false, false, false, false, false, false, false, false, false, false, false, false, false, false, false, false, false, false, false, false] HT_ ?_ ?_ ?_
         rotate_left
         ·intro w'
          go_simp
          with_reducible rfl
         rotate_left
         ·simp only [Act.put, List.setIfInBounds_toArray, List.set_cons_zero, List.set_cons_succ, i64_w, i32_w]
          rfl
         refine Sq.tk (v := ?_) (a' := ?_) 15 (some 24) #[true, true, true, true, true, true, true, true, true, true, true, true, true, true, true, true, false, false, false, false, false, false, false, false, false, false, false, false, false, false, false, false, false, false, false, false, false, false, false, false, false, false, false, false, false, false, false, false, false, false, false, false, false, false, false, false, false, false, false] HT_ HW_ hHeld ?_ ?_ ?_
         rotate_left
         ·rintro w' ⟨s0, s1, s2, s3⟩
          go_simp
          with_reducible rfl
         rotate_left
         ·simp only [Act.put, List.setIfInBounds_toArray, List.set_cons_zero, List.set_cons_succ, i64_w, i32_w]
          rfl
         refine Sq.tk (v := ?_) (a' := ?_) 16 (some 25) #[true, true, true, true, true, true, true, true, true, true, true, true, true, true, true, true, true, false, false, false, false, false, false, false, false, false, false, false, false, false, false, false, false, false, false, false, false, false, false, false, false, false, false, false, false, false, false, false, false, false, false, false, false, false, false, false, false, false, false] HT_ HW_ hHeld ?_ ?_ ?_
         rotate_left
         ·rintro w' ⟨s0, s1, s2, s3⟩
          go_simp
          with_reducible rfl
         rotate_left
         ·simp only [Act.put, List.setIfInBounds_toArray, List.set_cons_zero, List.set_cons_succ, i64_w, i32_w]
          rfl
         refine Sq.tk (v := ?_) (a' := ?_) 18 (some 27) #[true, true, true, true, true, true, true, true, true, true, true, true, true, true, true, true, true, false, true, false, false, false, false, false, false, false, false, false, false, false, false, false, false, false, false, false, false, false, false, false, false, false, false, false, false, false, false, false, false, false, false, false, false, false, false, false, false, false, false] HT_ HW_ hHeld ?_ ?_ ?_
         rotate_left
         ·rintro w' ⟨s0, s1, s2, s3⟩
          go_simp
          with_reducible rfl
         rotate_left
         ·simp only [Act.put, List.setIfInBounds_toArray, List.set_cons_zero, List.set_cons_succ, i64_w, i32_w]
          rfl
         refine Sq.tk (v := ?_) (a' := ?_) 19 (some 28) #[true, true, true, true, true, true, true, true, true, true, true, true, true, true, true, true, true, false, true, true, false, false, false, false, false, false, false, false, false, false, false, false, false, false, false, false, false, false, false, false, false, false, false, false, false, false, false, false, false, false, false, false, false, false, false, false, false, false, false] HT_ HW_ hHeld ?_ ?_ ?_
         rotate_left
         ·rintro w' ⟨s0, s1, s2, s3⟩
          go_simp
          with_reducible rfl
         rotate_left
         ·simp only [Act.put, List.setIfInBounds_toArray, List.set_cons_zero, List.set_cons_succ, i64_w, i32_w]
          rfl
         refine one_ (i := 17) (N := some 26) #[true, true, true, true, true, true, true, true, true, true, true, true, true, true, true, true, true, true, true, true, false, false, false, false, false, false, false, false, false, false, false, false, false, false, false, false, false, false, false, false, false, false, false, false, false, false, false, false, false, false, false, false, false, false, false, false, false, false, false] rfl rfl (one_of HT_.out (by kernel_rfl)) (by decide) (fun K hK => ?_)
         refine goes_ Try.func65 (by kernel_rfl) rfl #[.agg #[.bool a0_0, .slice A0_1 l0_1.length c0_1], .agg #[.bool a1_0, .slice A1_1 l1_1.length c1_1]] (by rfl) rfl rfl (by (try simp only [List.map_toArray, List.map_cons, List.map_nil]); first | done | rfl | (simp only [List.length_drop, List.length_take]; rfl)) ?_
         with_reducible refine (integer_Sub.calls a0_0 _ _ l0_1 a1_0 _ _ l1_1 t180 t181 _ ?side1 ?side2 ?side3 ?side4 A13.out).mono ?_
         (case side1 => exact Sq.ca (Kd.C_below HR0_1.out HB.out))
         (case side2 => exact HC0_1.out)
         (case side3 => exact Sq.ca (Kd.C_below HR1_1.out HB.out))
         (case side4 => exact HC1_1.out)
         rintro e w49 ⟨v182, rfl, ho0, hb⟩
         refine ⟨_, rfl, ?_⟩
         have HO183 := Aside0.mk (Kd.R_lower (Kd.R_new' (Kd.R_new' (Kd.R_new' (Kd.R_new' ho0 (Kd.R_lt (Sq.al HO165))) (Kd.R_lt (Sq.al HO169))) (Kd.R_lt (Sq.al HO174))) (Kd.R_lt (Sq.al HO178))) (below_size (Sq.bl HB)))
         replace BK159 := Sq.bb BK159 hb
         replace BK160 := Sq.bb BK160 hb
         replace HO165 := Aside0.mk (Kd.R_elder' (Sq.al HO165) (Kd.R_base ho0) hb)
         replace HO169 := Aside0.mk (Kd.R_elder' (Sq.al HO169) (Kd.R_base ho0) hb)
         replace HO174 := Aside0.mk (Kd.R_elder' (Sq.al HO174) (Kd.R_base ho0) hb)
         replace HO178 := Aside0.mk (Kd.R_elder' (Sq.al HO178) (Kd.R_base ho0) hb)
         replace HB := Sq.bs HB hb
         (try clear hb)
         (try clear hb2)
         (try clear hk)
         (try clear hi)
         (try clear ho0)
         refine hK.out _ _ ⟨(blk_cell BK159.out 0).trans rfl, (blk_cell BK159.out 1).trans rfl, (blk_cell BK160.out 0).trans rfl, (blk_cell BK160.out 1).trans rfl⟩ (fun hHeld => ?_)
         clear hK K
         refine norm_ (a' := ?_) ?_ ?_
         rotate_left
         ·show Act.put _ (some 26) _ = _
          simp only [Act.put, List.setIfInBounds_toArray, List.set_cons_zero, List.set_cons_succ, i64_w, i32_w]
          rfl
         refine one_ (i := 20) (N := some 29) #[true, true, true, true, true, true, true, true, true, true, true, true, true, true, true, true, true, true, true, true, true, false, false, false, false, false, false, false, false, false, false, false, false, false, false, false, false, false, false, false, false, false, false, false, false, false, false, false, false, false, false, false, false, false, false, false, false, false, false] rfl rfl (one_of HT_.out (by kernel_rfl)) (by decide) (fun K hK => ?_)
         refine goes_ Try.func75 (by kernel_rfl) rfl #[.agg #[.bool a0_0, .slice A0_1 l0_1.length c0_1], .agg #[.bool a1_0, .slice A1_1 l1_1.length c1_1]] (by rfl) rfl rfl (by (try simp only [List.map_toArray, List.map_cons, List.map_nil]); first | done | rfl | (simp only [List.length_drop, List.length_take]; rfl)) ?_
         with_reducible refine (foliotref02_Sub.calls a0_0 _ _ l0_1 a1_0 _ _ l1_1 t184 t185 _ ?side1 ?side2 ?side3 ?side4 A14.out).mono ?_
         (case side1 => exact Sq.ca (Kd.C_below HR0_1.out HB.out))
         (case side2 => exact HC0_1.out)
         (case side3 => exact Sq.ca (Kd.C_below HR1_1.out HB.out))
         (case side4 => exact HC1_1.out)
         rintro e w50 ⟨v186, rfl, ho0, hb⟩
         refine ⟨_, rfl, ?_⟩
         have HO187 := Aside0.mk (Kd.R_lower (Kd.R_new' (Kd.R_new' (Kd.R_new' (Kd.R_new' (Kd.R_new' ho0 (Kd.R_lt (Sq.al HO165))) (Kd.R_lt (Sq.al HO169))) (Kd.R_lt (Sq.al HO174))) (Kd.R_lt (Sq.al HO178))) (Kd.R_lt (Sq.al HO183))) (below_size (Sq.bl HB)))
         replace BK159 := Sq.bb BK159 hb
         replace BK160 := Sq.bb BK160 hb
         replace HO165 := Aside0.mk (Kd.R_elder' (Sq.al HO165) (Kd.R_base ho0) hb)
         replace HO169 := Aside0.mk (Kd.R_elder' (Sq.al HO169) (Kd.R_base ho0) hb)
         replace HO174 := Aside0.mk (Kd.R_elder' (Sq.al HO174) (Kd.R_base ho0) hb)
         replace HO178 := Aside0.mk (Kd.R_elder' (Sq.al HO178) (Kd.R_base ho0) hb)
         replace HO183 := Aside0.mk (Kd.R_elder' (Sq.al HO183) (Kd.R_base ho0) hb)
         replace HB := Sq.bs HB hb
         (try clear hb)
         (try clear hb2)
         (try clear hk)
         (try clear hi)
         (try clear ho0)
         obtain ⟨Ao51, co51, eo51⟩ := Kd.R_slice HO183.out
         (first | subst eo51 | (injection eo51 with f1_ f2_ f3_; have f4_ := f1_.symm; have f5_ := f3_.symm; clear f1_ f2_ f3_; subst f4_; subst f5_))
         obtain ⟨Ao52, co52, eo52⟩ := Kd.R_slice HO187.out
         (first | subst eo52 | (injection eo52 with f1_ f2_ f3_; have f4_ := f1_.symm; have f5_ := f3_.symm; clear f1_ f2_ f3_; subst f4_; subst f5_))
         refine hK.out _ _ ⟨(blk_cell BK159.out 0).trans rfl, (blk_cell BK159.out 1).trans rfl, (blk_cell BK160.out 0).trans rfl, (blk_cell BK160.out 1).trans rfl⟩ (fun hHeld => ?_)
         clear hK K
         refine norm_ (a' := ?_) ?_ ?_
         rotate_left
         ·show Act.put _ (some 29) _ = _
          simp only [Act.put, List.setIfInBounds_toArray, List.set_cons_zero, List.set_cons_succ, i64_w, i32_w]
          rfl
         refine one_ (i := 21) (N := some 30) #[true, true, true, true, true, true, true, true, true, true, true, true, true, true, true, true, true, true, true, true, true, true, false, false, false, false, false, false, false, false, false, false, false, false, false, false, false, false, false, false, false, false, false, false, false, false, false, false, false, false, false, false, false, false, false, false, false, false, false] rfl rfl (one_of HT_.out (by kernel_rfl)) (by decide) (fun K hK => ?_)
         refine goes_ Try.func56 (by kernel_rfl) rfl #[.agg #[.bool t180, .slice Ao51 t181.length co51], .agg #[.bool t184, .slice Ao52 t185.length co52]] (by rfl) rfl rfl (by (try simp only [List.map_toArray, List.map_cons, List.map_nil]); first | done | rfl | (simp only [List.length_drop, List.length_take]; rfl)) ?_
         with_reducible refine (foliotlaw02_same.calls k t180 _ _ t181 t184 _ _ t185 true _ ?side1 ?side2 ?side3 ?side4 A15.out).mono ?_
         (case side1 => exact Sq.ca (Kd.R_reads' HO183.out).2.2)
         (case side2 => exact (Kd.R_reads' HO183.out).2.1)
         (case side3 => exact Sq.ca (Kd.R_reads' HO187.out).2.2)
         (case side4 => exact (Kd.R_reads' HO187.out).2.1)
         rintro e w53 ⟨rfl, hb⟩
         refine ⟨_, rfl, ?_⟩
         replace HO165 := Aside0.mk (Kd.R_below (Sq.al HO165) hb)
         replace HO169 := Aside0.mk (Kd.R_below (Sq.al HO169) hb)
         replace HO174 := Aside0.mk (Kd.R_below (Sq.al HO174) hb)
         replace HO178 := Aside0.mk (Kd.R_below (Sq.al HO178) hb)
         replace HO183 := Aside0.mk (Kd.R_below (Sq.al HO183) hb)
         replace HO187 := Aside0.mk (Kd.R_below (Sq.al HO187) hb)
         replace BK159 := Sq.bb BK159 hb
         replace BK160 := Sq.bb BK160 hb
         replace HB := Sq.bs HB hb
         (try clear hb)
         (try clear hb2)
         (try clear hk)
         (try clear hi)
         refine hK.out _ _ ⟨(blk_cell BK159.out 0).trans rfl, (blk_cell BK159.out 1).trans rfl, (blk_cell BK160.out 0).trans rfl, (blk_cell BK160.out 1).trans rfl⟩ (fun hHeld => ?_)
         clear hK K
         refine norm_ (a' := ?_) ?_ ?_
         rotate_left
         ·show Act.put _ (some 30) _ = _
          simp only [Act.put, List.setIfInBounds_toArray, List.set_cons_zero, List.set_cons_succ, i64_w, i32_w]
          rfl
         refine Sq.pu (v := ?_) (a' := ?_) 22 (some 31) #[true, true, true, true, true, true, true, true, true, true, true, true, true, true, true, true, true, true, true, true, true, true, true, false, false, false, false, false, false, false, false, false, false, false, false, false, false, false, false, false, false, false, false, false, false, false, false, false, false, false, false, false, false, false, false, false, false, false, false] HT_ ?_ ?_ ?_
         rotate_left
         ·intro w'
          go_simp
          with_reducible rfl
         rotate_left
         ·simp only [Act.put, List.setIfInBounds_toArray, List.set_cons_zero, List.set_cons_succ, i64_w, i32_w]
          rfl
         refine Sq.pu (v := ?_) (a' := ?_) 23 (some 32) #[true, true, true, true, true, true, true, true, true, true, true, true, true, true, true, true, true, true, true, true, true, true, true, true, false, false, false, false, false, false, false, false, false, false, false, false, false, false, false, false, false, false, false, false, false, false, false, false, false, false, false, false, false, false, false, false, false, false, false] HT_ ?_ ?_ ?_
         rotate_left
         ·intro w'
          go_simp
          with_reducible rfl
         rotate_left
         ·simp only [Act.put, List.setIfInBounds_toArray, List.set_cons_zero, List.set_cons_succ, i64_w, i32_w]
          rfl
         refine Sq.tk (v := ?_) (a' := ?_) 24 (some 33) #[true, true, true, true, true, true, true, true, true, true, true, true, true, true, true, true, true, true, true, true, true, true, true, true, true, false, false, false, false, false, false, false, false, false, false, false, false, false, false, false, false, false, false, false, false, false, false, false, false, false, false, false, false, false, false, false, false, false, false] HT_ HW_ hHeld ?_ ?_ ?_
         rotate_left
         ·rintro w' ⟨s0, s1, s2, s3⟩
          go_simp
          with_reducible rfl
         rotate_left
         ·simp only [Act.put, List.setIfInBounds_toArray, List.set_cons_zero, List.set_cons_succ, i64_w, i32_w]
          rfl
         refine Sq.tk (v := ?_) (a' := ?_) 25 (some 34) #[true, true, true, true, true, true, true, true, true, true, true, true, true, true, true, true, true, true, true, true, true, true, true, true, true, true, false, false, false, false, false, false, false, false, false, false, false, false, false, false, false, false, false, false, false, false, false, false, false, false, false, false, false, false, false, false, false, false, false] HT_ HW_ hHeld ?_ ?_ ?_
         rotate_left
         ·rintro w' ⟨s0, s1, s2, s3⟩
          go_simp
          with_reducible rfl
         rotate_left
         ·simp only [Act.put, List.setIfInBounds_toArray, List.set_cons_zero, List.set_cons_succ, i64_w, i32_w]
          rfl
         refine Sq.tk (v := ?_) (a' := ?_) 27 (some 36) #[true, true, true, true, true, true, true, true, true, true, true, true, true, true, true, true, true, true, true, true, true, true, true, true, true, true, false, true, false, false, false, false, false, false, false, false, false, false, false, false, false, false, false, false, false, false, false, false, false, false, false, false, false, false, false, false, false, false, false] HT_ HW_ hHeld ?_ ?_ ?_
         rotate_left
         ·rintro w' ⟨s0, s1, s2, s3⟩
          go_simp
          with_reducible rfl
         rotate_left
         ·simp only [Act.put, List.setIfInBounds_toArray, List.set_cons_zero, List.set_cons_succ, i64_w, i32_w]
          rfl
         refine Sq.tk (v := ?_) (a' := ?_) 28 (some 37) #[true, true, true, true, true, true, true, true, true, true, true, true, true, true, true, true, true, true, true, true, true, true, true, true, true, true, false, true, true, false, false, false, false, false, false, false, false, false, false, false, false, false, false, false, false, false, false, false, false, false, false, false, false, false, false, false, false, false, false] HT_ HW_ hHeld ?_ ?_ ?_
         rotate_left
         ·rintro w' ⟨s0, s1, s2, s3⟩
          go_simp
          with_reducible rfl
         rotate_left
         ·simp only [Act.put, List.setIfInBounds_toArray, List.set_cons_zero, List.set_cons_succ, i64_w, i32_w]
          rfl
         refine one_ (i := 26) (N := some 35) #[true, true, true, true, true, true, true, true, true, true, true, true, true, true, true, true, true, true, true, true, true, true, true, true, true, true, true, true, true, false, false, false, false, false, false, false, false, false, false, false, false, false, false, false, false, false, false, false, false, false, false, false, false, false, false, false, false, false, false] rfl rfl (one_of HT_.out (by kernel_rfl)) (by decide) (fun K hK => ?_)
         refine goes_ Try.func64 (by kernel_rfl) rfl #[.agg #[.bool a0_0, .slice A0_1 l0_1.length c0_1], .agg #[.bool a1_0, .slice A1_1 l1_1.length c1_1]] (by rfl) rfl rfl (by (try simp only [List.map_toArray, List.map_cons, List.map_nil]); first | done | rfl | (simp only [List.length_drop, List.length_take]; rfl)) ?_
         with_reducible refine (integer_Mul.calls a0_0 _ _ l0_1 a1_0 _ _ l1_1 t189 t190 _ ?side1 ?side2 ?side3 ?side4 A17.out).mono ?_
         (case side1 => exact Sq.ca (Kd.C_below HR0_1.out HB.out))
         (case side2 => exact HC0_1.out)
         (case side3 => exact Sq.ca (Kd.C_below HR1_1.out HB.out))
         (case side4 => exact HC1_1.out)
         rintro e w54 ⟨v191, rfl, ho0, hb⟩
         refine ⟨_, rfl, ?_⟩
         have HO192 := Aside0.mk (Kd.R_lower (Kd.R_new' (Kd.R_new' (Kd.R_new' (Kd.R_new' (Kd.R_new' (Kd.R_new' ho0 (Kd.R_lt (Sq.al HO165))) (Kd.R_lt (Sq.al HO169))) (Kd.R_lt (Sq.al HO174))) (Kd.R_lt (Sq.al HO178))) (Kd.R_lt (Sq.al HO183))) (Kd.R_lt (Sq.al HO187))) (below_size (Sq.bl HB)))
         replace BK159 := Sq.bb BK159 hb
         replace BK160 := Sq.bb BK160 hb
         replace HO165 := Aside0.mk (Kd.R_elder' (Sq.al HO165) (Kd.R_base ho0) hb)
         replace HO169 := Aside0.mk (Kd.R_elder' (Sq.al HO169) (Kd.R_base ho0) hb)
         replace HO174 := Aside0.mk (Kd.R_elder' (Sq.al HO174) (Kd.R_base ho0) hb)
         replace HO178 := Aside0.mk (Kd.R_elder' (Sq.al HO178) (Kd.R_base ho0) hb)
         replace HO183 := Aside0.mk (Kd.R_elder' (Sq.al HO183) (Kd.R_base ho0) hb)
         replace HO187 := Aside0.mk (Kd.R_elder' (Sq.al HO187) (Kd.R_base ho0) hb)
         replace HB := Sq.bs HB hb
         (try clear hb)
         (try clear hb2)
         (try clear hk)
         (try clear hi)
         (try clear ho0)
         refine hK.out _ _ ⟨(blk_cell BK159.out 0).trans rfl, (blk_cell BK159.out 1).trans rfl, (blk_cell BK160.out 0).trans rfl, (blk_cell BK160.out 1).trans rfl⟩ (fun hHeld => ?_)
         clear hK K
         refine norm_ (a' := ?_) ?_ ?_
         rotate_left
         ·show Act.put _ (some 35) _ = _
          simp only [Act.put, List.setIfInBounds_toArray, List.set_cons_zero, List.set_cons_succ, i64_w, i32_w]
          rfl
         refine one_ (i := 29) (N := some 38) #[true, true, true, true, true, true, true, true, true, true, true, true, true, true, true, true, true, true, true, true, true, true, true, true, true, true, true, true, true, true, false, false, false, false, false, false, false, false, false, false, false, false, false, false, false, false, false, false, false, false, false, false, false, false, false, false, false, false, false] rfl rfl (one_of HT_.out (by kernel_rfl)) (by decide) (fun K hK => ?_)
         refine goes_ Try.func76 (by kernel_rfl) rfl #[.agg #[.bool a0_0, .slice A0_1 l0_1.length c0_1], .agg #[.bool a1_0, .slice A1_1 l1_1.length c1_1]] (by rfl) rfl rfl (by (try simp only [List.map_toArray, List.map_cons, List.map_nil]); first | done | rfl | (simp only [List.length_drop, List.length_take]; rfl)) ?_
         with_reducible refine (foliotref02_Mul.calls a0_0 _ _ l0_1 a1_0 _ _ l1_1 t193 t194 _ ?side1 ?side2 ?side3 ?side4 A18.out).mono ?_
         (case side1 => exact Sq.ca (Kd.C_below HR0_1.out HB.out))
         (case side2 => exact HC0_1.out)
         (case side3 => exact Sq.ca (Kd.C_below HR1_1.out HB.out))
         (case side4 => exact HC1_1.out)
         rintro e w55 ⟨v195, rfl, ho0, hb⟩
         refine ⟨_, rfl, ?_⟩
         have HO196 := Aside0.mk (Kd.R_lower (Kd.R_new' (Kd.R_new' (Kd.R_new' (Kd.R_new' (Kd.R_new' (Kd.R_new' (Kd.R_new' ho0 (Kd.R_lt (Sq.al HO165))) (Kd.R_lt (Sq.al HO169))) (Kd.R_lt (Sq.al HO174))) (Kd.R_lt (Sq.al HO178))) (Kd.R_lt (Sq.al HO183))) (Kd.R_lt (Sq.al HO187))) (Kd.R_lt (Sq.al HO192))) (below_size (Sq.bl HB)))
         replace BK159 := Sq.bb BK159 hb
         replace BK160 := Sq.bb BK160 hb
         replace HO165 := Aside0.mk (Kd.R_elder' (Sq.al HO165) (Kd.R_base ho0) hb)
         replace HO169 := Aside0.mk (Kd.R_elder' (Sq.al HO169) (Kd.R_base ho0) hb)
         replace HO174 := Aside0.mk (Kd.R_elder' (Sq.al HO174) (Kd.R_base ho0) hb)
         replace HO178 := Aside0.mk (Kd.R_elder' (Sq.al HO178) (Kd.R_base ho0) hb)
         replace HO183 := Aside0.mk (Kd.R_elder' (Sq.al HO183) (Kd.R_base ho0) hb)
         replace HO187 := Aside0.mk (Kd.R_elder' (Sq.al HO187) (Kd.R_base ho0) hb)
         replace HO192 := Aside0.mk (Kd.R_elder' (Sq.al HO192) (Kd.R_base ho0) hb)
         replace HB := Sq.bs HB hb
         (try clear hb)
         (try clear hb2)
         (try clear hk)
         (try clear hi)
         (try clear ho0)
         obtain ⟨Ao56, co56, eo56⟩ := Kd.R_slice HO192.out
         (first | subst eo56 | (injection eo56 with f1_ f2_ f3_; have f4_ := f1_.symm; have f5_ := f3_.symm; clear f1_ f2_ f3_; subst f4_; subst f5_))
         obtain ⟨Ao57, co57, eo57⟩ := Kd.R_slice HO196.out
         (first | subst eo57 | (injection eo57 with f1_ f2_ f3_; have f4_ := f1_.symm; have f5_ := f3_.symm; clear f1_ f2_ f3_; subst f4_; subst f5_))
         refine hK.out _ _ ⟨(blk_cell BK159.out 0).trans rfl, (blk_cell BK159.out 1).trans rfl, (blk_cell BK160.out 0).trans rfl, (blk_cell BK160.out 1).trans rfl⟩ (fun hHeld => ?_)
         clear hK K
         refine norm_ (a' := ?_) ?_ ?_
         rotate_left
         ·show Act.put _ (some 38) _ = _
          simp only [Act.put, List.setIfInBounds_toArray, List.set_cons_zero, List.set_cons_succ, i64_w, i32_w]
          rfl
         refine one_ (i := 30) (N := some 39) #[true, true, true, true, true, true, true, true, true, true, true, true, true, true, true, true, true, true, true, true, true, true, true, true, true, true, true, true, true, true, true, false, false, false, false, false, false, false, false, false, false, false, false, false, false, false, false, false, false, false, false, false, false, false, false, false, false, false, false] rfl rfl (one_of HT_.out (by kernel_rfl)) (by decide) (fun K hK => ?_)
         refine goes_ Try.func56 (by kernel_rfl) rfl #[.agg #[.bool t189, .slice Ao56 t190.length co56], .agg #[.bool t193, .slice Ao57 t194.length co57]] (by rfl) rfl rfl (by (try simp only [List.map_toArray, List.map_cons, List.map_nil]); first | done | rfl | (simp only [List.length_drop, List.length_take]; rfl)) ?_
         with_reducible refine (foliotlaw02_same.calls k t189 _ _ t190 t193 _ _ t194 true _ ?side1 ?side2 ?side3 ?side4 A19.out).mono ?_
         (case side1 => exact Sq.ca (Kd.R_reads' HO192.out).2.2)
         (case side2 => exact (Kd.R_reads' HO192.out).2.1)
         (case side3 => exact Sq.ca (Kd.R_reads' HO196.out).2.2)
         (case side4 => exact (Kd.R_reads' HO196.out).2.1)
         rintro e w58 ⟨rfl, hb⟩
         refine ⟨_, rfl, ?_⟩
         replace HO165 := Aside0.mk (Kd.R_below (Sq.al HO165) hb)
         replace HO169 := Aside0.mk (Kd.R_below (Sq.al HO169) hb)
         replace HO174 := Aside0.mk (Kd.R_below (Sq.al HO174) hb)
         replace HO178 := Aside0.mk (Kd.R_below (Sq.al HO178) hb)
         replace HO183 := Aside0.mk (Kd.R_below (Sq.al HO183) hb)
         replace HO187 := Aside0.mk (Kd.R_below (Sq.al HO187) hb)
         replace HO192 := Aside0.mk (Kd.R_below (Sq.al HO192) hb)
         replace HO196 := Aside0.mk (Kd.R_below (Sq.al HO196) hb)
         replace BK159 := Sq.bb BK159 hb
         replace BK160 := Sq.bb BK160 hb
         replace HB := Sq.bs HB hb
         (try clear hb)
         (try clear hb2)
         (try clear hk)
         (try clear hi)
         refine hK.out _ _ ⟨(blk_cell BK159.out 0).trans rfl, (blk_cell BK159.out 1).trans rfl, (blk_cell BK160.out 0).trans rfl, (blk_cell BK160.out 1).trans rfl⟩ (fun hHeld => ?_)
         clear hK K
         refine norm_ (a' := ?_) ?_ ?_
         rotate_left
         ·show Act.put _ (some 39) _ = _
          simp only [Act.put, List.setIfInBounds_toArray, List.set_cons_zero, List.set_cons_succ, i64_w, i32_w]
          rfl
         refine Sq.pu (v := ?_) (a' := ?_) 31 (some 40) #[true, true, true, true, true, true, true, true, true, true, true, true, true, true, true, true, true, true, true, true, true, true, true, true, true, true, true, true, true, true, true, true, false, false, false, false, false, false, false, false, false, false, false, false, false, false, false, false, false, false, false, false, false, false, false, false, false, false, false] HT_ ?_ ?_ ?_
         rotate_left
         ·intro w'
          go_simp
          with_reducible rfl
         rotate_left
         ·simp only [Act.put, List.setIfInBounds_toArray, List.set_cons_zero, List.set_cons_succ, i64_w, i32_w]
          rfl
         refine Sq.pu (v := ?_) (a' := ?_) 32 (some 41) #[true, true, true, true, true, true, true, true, true, true, true, true, true, true, true, true, true, true, true, true, true, true, true, true, true, true, true, true, true, true, true, true, true, false, false, false, false, false, false, false, false, false, false, false, false, false, false, false, false, false, false, false, false, false, false, false, false, false, false] HT_ ?_ ?_ ?_
         rotate_left
         ·intro w'
          go_simp
          with_reducible rfl
         rotate_left
         ·simp only [Act.put, List.setIfInBounds_toArray, List.set_cons_zero, List.set_cons_succ, i64_w, i32_w]
          rfl
         refine Sq.tk (v := ?_) (a' := ?_) 33 (some 42) #[true, true, true, true, true, true, true, true, true, true, true, true, true, true, true, true, true, true, true, true, true, true, true, true, true, true, true, true, true, true, true, true, true, true, false, false, false, false, false, false, false, false, false, false, false, false, false, false, false, false, false, false, false, false, false, false, false, false, false] HT_ HW_ hHeld ?_ ?_ ?_
         rotate_left
         ·rintro w' ⟨s0, s1, s2, s3⟩
          go_simp
          with_reducible rfl
         rotate_left
         ·simp only [Act.put, List.setIfInBounds_toArray, List.set_cons_zero, List.set_cons_succ, i64_w, i32_w]
          rfl
         refine Sq.tk (v := ?_) (a' := ?_) 35 (some 44) #[true, true, true, true, true, true, true, true, true, true, true, true, true, true, true, true, true, true, true, true, true, true, true, true, true, true, true, true, true, true, true, true, true, true, false, true, false, false, false, false, false, false, false, false, false, false, false, false, false, false, false, false, false, false, false, false, false, false, false] HT_ HW_ hHeld ?_ ?_ ?_
         rotate_left
         ·rintro w' ⟨s0, s1, s2, s3⟩
          go_simp
          with_reducible rfl
         rotate_left
         ·simp only [Act.put, List.setIfInBounds_toArray, List.set_cons_zero, List.set_cons_succ, i64_w, i32_w]
          rfl
         refine one_ (i := 34) (N := some 43) #[true, true, true, true, true, true, true, true, true, true, true, true, true, true, true, true, true, true, true, true, true, true, true, true, true, true, true, true, true, true, true, true, true, true, true, true, false, false, false, false, false, false, false, false, false, false, false, false, false, false, false, false, false, false, false, false, false, false, false] rfl rfl (one_of HT_.out (by kernel_rfl)) (by decide) (fun K hK => ?_)
         refine goes_ Try.func67 (by kernel_rfl) rfl #[.agg #[.bool a0_0, .slice A0_1 l0_1.length c0_1]] (by rfl) rfl rfl (by (try simp only [List.map_toArray, List.map_cons, List.map_nil]); first | done | rfl | (simp only [List.length_drop, List.length_take]; rfl)) ?_
         with_reducible refine (integer_Neg.calls a0_0 _ _ l0_1 t198 t199 _ ?side1 ?side2 A21.out).mono ?_
         (case side1 => exact Sq.ca (Kd.C_below HR0_1.out HB.out))
         (case side2 => exact HC0_1.out)
         rintro e w59 ⟨v200, rfl, ho0, hb⟩
         refine ⟨_, rfl, ?_⟩
         have HO201 := Aside0.mk (Kd.R_lower (Kd.R_new' (Kd.R_new' (Kd.R_new' (Kd.R_new' (Kd.R_new' (Kd.R_new' (Kd.R_new' (Kd.R_new' ho0 (Kd.R_lt (Sq.al HO165))) (Kd.R_lt (Sq.al HO169))) (Kd.R_lt (Sq.al HO174))) (Kd.R_lt (Sq.al HO178))) (Kd.R_lt (Sq.al HO183))) (Kd.R_lt (Sq.al HO187))) (Kd.R_lt (Sq.al HO192))) (Kd.R_lt (Sq.al HO196))) (below_size (Sq.bl HB)))
         replace BK159 := Sq.bb BK159 hb
         replace BK160 := Sq.bb BK160 hb
         replace HO165 := Aside0.mk (Kd.R_elder' (Sq.al HO165) (Kd.R_base ho0) hb)
         replace HO169 := Aside0.mk (Kd.R_elder' (Sq.al HO169) (Kd.R_base ho0) hb)
         replace HO174 := Aside0.mk (Kd.R_elder' (Sq.al HO174) (Kd.R_base ho0) hb)
         replace HO178 := Aside0.mk (Kd.R_elder' (Sq.al HO178) (Kd.R_base ho0) hb)
         replace HO183 := Aside0.mk (Kd.R_elder' (Sq.al HO183) (Kd.R_base ho0) hb)
         replace HO187 := Aside0.mk (Kd.R_elder' (Sq.al HO187) (Kd.R_base ho0) hb)
         replace HO192 := Aside0.mk (Kd.R_elder' (Sq.al HO192) (Kd.R_base ho0) hb)
         replace HO196 := Aside0.mk (Kd.R_elder' (Sq.al HO196) (Kd.R_base ho0) hb)
         replace HB := Sq.bs HB hb
         (try clear hb)
         (try clear hb2)
         (try clear hk)
         (try clear hi)
         (try clear ho0)
         refine hK.out _ _ ⟨(blk_cell BK159.out 0).trans rfl, (blk_cell BK159.out 1).trans rfl, (blk_cell BK160.out 0).trans rfl, (blk_cell BK160.out 1).trans rfl⟩ (fun hHeld => ?_)
         clear hK K
         refine norm_ (a' := ?_) ?_ ?_
         rotate_left
         ·show Act.put _ (some 43) _ = _
          simp only [Act.put, List.setIfInBounds_toArray, List.set_cons_zero, List.set_cons_succ, i64_w, i32_w]
          rfl
         refine one_ (i := 36) (N := some 45) #[true, true, true, true, true, true, true, true, true, true, true, true, true, true, true, true, true, true, true, true, true, true, true, true, true, true, true, true, true, true, true, true, true, true, true, true, true, false, false, false, false, false, false, false, false, false, false, false, false, false, false, false, false, false, false, false, false, false, false] rfl rfl (one_of HT_.out (by kernel_rfl)) (by decide) (fun K hK => ?_)
         refine goes_ Try.func77 (by kernel_rfl) rfl #[.agg #[.bool a0_0, .slice A0_1 l0_1.length c0_1]] (by rfl) rfl rfl (by (try simp only [List.map_toArray, List.map_cons, List.map_nil]); first | done | rfl | (simp only [List.length_drop, List.length_take]; rfl)) ?_
         with_reducible refine (foliotref02_Neg.calls a0_0 _ _ l0_1 t202 t203 _ ?side1 ?side2 A22.out).mono ?_
         (case side1 => exact Sq.ca (Kd.C_below HR0_1.out HB.out))
         (case side2 => exact HC0_1.out)
         rintro e w60 ⟨v204, rfl, ho0, hb⟩
         refine ⟨_, rfl, ?_⟩
         have HO205 := Aside0.mk (Kd.R_lower (Kd.R_new' (Kd.R_new' (Kd.R_new' (Kd.R_new' (Kd.R_new' (Kd.R_new' (Kd.R_new' (Kd.R_new' (Kd.R_new' ho0 (Kd.R_lt (Sq.al HO165))) (Kd.R_lt (Sq.al HO169))) (Kd.R_lt (Sq.al HO174))) (Kd.R_lt (Sq.al HO178))) (Kd.R_lt (Sq.al HO183))) (Kd.R_lt (Sq.al HO187))) (Kd.R_lt (Sq.al HO192))) (Kd.R_lt (Sq.al HO196))) (Kd.R_lt (Sq.al HO201))) (below_size (Sq.bl HB)))
         replace BK159 := Sq.bb BK159 hb
         replace BK160 := Sq.bb BK160 hb
         replace HO165 := Aside0.mk (Kd.R_elder' (Sq.al HO165) (Kd.R_base ho0) hb)
         replace HO169 := Aside0.mk (Kd.R_elder' (Sq.al HO169) (Kd.R_base ho0) hb)
         replace HO174 := Aside0.mk (Kd.R_elder' (Sq.al HO174) (Kd.R_base ho0) hb)
         replace HO178 := Aside0.mk (Kd.R_elder' (Sq.al HO178) (Kd.R_base ho0) hb)
         replace HO183 := Aside0.mk (Kd.R_elder' (Sq.al HO183) (Kd.R_base ho0) hb)
         replace HO187 := Aside0.mk (Kd.R_elder' (Sq.al HO187) (Kd.R_base ho0) hb)
         replace HO192 := Aside0.mk (Kd.R_elder' (Sq.al HO192) (Kd.R_base ho0) hb)
         replace HO196 := Aside0.mk (Kd.R_elder' (Sq.al HO196) (Kd.R_base ho0) hb)
         replace HO201 := Aside0.mk (Kd.R_elder' (Sq.al HO201) (Kd.R_base ho0) hb)
         replace HB := Sq.bs HB hb
         (try clear hb)
         (try clear hb2)
         (try clear hk)
         (try clear hi)
         (try clear ho0)
         obtain ⟨Ao61, co61, eo61⟩ := Kd.R_slice HO201.out
         (first | subst eo61 | (injection eo61 with f1_ f2_ f3_; have f4_ := f1_.symm; have f5_ := f3_.symm; clear f1_ f2_ f3_; subst f4_; subst f5_))
         obtain ⟨Ao62, co62, eo62⟩ := Kd.R_slice HO205.out
         (first | subst eo62 | (injection eo62 with f1_ f2_ f3_; have f4_ := f1_.symm; have f5_ := f3_.symm; clear f1_ f2_ f3_; subst f4_; subst f5_))
         refine hK.out _ _ ⟨(blk_cell BK159.out 0).trans rfl, (blk_cell BK159.out 1).trans rfl, (blk_cell BK160.out 0).trans rfl, (blk_cell BK160.out 1).trans rfl⟩ (fun hHeld => ?_)
         clear hK K
         refine norm_ (a' := ?_) ?_ ?_
         rotate_left
         ·show Act.put _ (some 45) _ = _
          simp only [Act.put, List.setIfInBounds_toArray, List.set_cons_zero, List.set_cons_succ, i64_w, i32_w]
          rfl
         refine one_ (i := 37) (N := some 46) #[true, true, true, true, true, true, true, true, true, true, true, true, true, true, true, true, true, true, true, true, true, true, true, true, true, true, true, true, true, true, true, true, true, true, true, true, true, true, false, false, false, false, false, false, false, false, false, false, false, false, false, false, false, false, false, false, false, false, false] rfl rfl (one_of HT_.out (by kernel_rfl)) (by decide) (fun K hK => ?_)
         refine goes_ Try.func56 (by kernel_rfl) rfl #[.agg #[.bool t198, .slice Ao61 t199.length co61], .agg #[.bool t202, .slice Ao62 t203.length co62]] (by rfl) rfl rfl (by (try simp only [List.map_toArray, List.map_cons, List.map_nil]); first | done | rfl | (simp only [List.length_drop, List.length_take]; rfl)) ?_
         with_reducible refine (foliotlaw02_same.calls k t198 _ _ t199 t202 _ _ t203 true _ ?side1 ?side2 ?side3 ?side4 A23.out).mono ?_
         (case side1 => exact Sq.ca (Kd.R_reads' HO201.out).2.2)
         (case side2 => exact (Kd.R_reads' HO201.out).2.1)
         (case side3 => exact Sq.ca (Kd.R_reads' HO205.out).2.2)
         (case side4 => exact (Kd.R_reads' HO205.out).2.1)
         rintro e w63 ⟨rfl, hb⟩
         refine ⟨_, rfl, ?_⟩
         replace HO165 := Aside0.mk (Kd.R_below (Sq.al HO165) hb)
         replace HO169 := Aside0.mk (Kd.R_below (Sq.al HO169) hb)
         replace HO174 := Aside0.mk (Kd.R_below (Sq.al HO174) hb)
         replace HO178 := Aside0.mk (Kd.R_below (Sq.al HO178) hb)
         replace HO183 := Aside0.mk (Kd.R_below (Sq.al HO183) hb)
         replace HO187 := Aside0.mk (Kd.R_below (Sq.al HO187) hb)
         replace HO192 := Aside0.mk (Kd.R_below (Sq.al HO192) hb)
         replace HO196 := Aside0.mk (Kd.R_below (Sq.al HO196) hb)
         replace HO201 := Aside0.mk (Kd.R_below (Sq.al HO201) hb)
         replace HO205 := Aside0.mk (Kd.R_below (Sq.al HO205) hb)
         replace BK159 := Sq.bb BK159 hb
         replace BK160 := Sq.bb BK160 hb
         replace HB := Sq.bs HB hb
         (try clear hb)
         (try clear hb2)
         (try clear hk)
         (try clear hi)
         refine hK.out _ _ ⟨(blk_cell BK159.out 0).trans rfl, (blk_cell BK159.out 1).trans rfl, (blk_cell BK160.out 0).trans rfl, (blk_cell BK160.out 1).trans rfl⟩ (fun hHeld => ?_)
         clear hK K
         refine norm_ (a' := ?_) ?_ ?_
         rotate_left
         ·show Act.put _ (some 46) _ = _
          simp only [Act.put, List.setIfInBounds_toArray, List.set_cons_zero, List.set_cons_succ, i64_w, i32_w]
          rfl
         refine Sq.pu (v := ?_) (a' := ?_) 38 (some 47) #[true, true, true, true, true, true, true, true, true, true, true, true, true, true, true, true, true, true, true, true, true, true, true, true, true, true, true, true, true, true, true, true, true, true, true, true, true, true, true, false, false, false, false, false, false, false, false, false, false, false, false, false, false, false, false, false, false, false, false] HT_ ?_ ?_ ?_
         rotate_left
         ·intro w'
          go_simp
          with_reducible rfl
         rotate_left
         ·simp only [Act.put, List.setIfInBounds_toArray, List.set_cons_zero, List.set_cons_succ, i64_w, i32_w]
          rfl
         refine Sq.pu (v := ?_) (a' := ?_) 39 (some 48) #[true, true, true, true, true, true, true, true, true, true, true, true, true, true, true, true, true, true, true, true, true, true, true, true, true, true, true, true, true, true, true, true, true, true, true, true, true, true, true, true, false, false, false, false, false, false, false, false, false, false, false, false, false, false, false, false, false, false, false] HT_ ?_ ?_ ?_
         rotate_left
         ·intro w'
          go_simp
          with_reducible rfl
         rotate_left
         ·simp only [Act.put, List.setIfInBounds_toArray, List.set_cons_zero, List.set_cons_succ, i64_w, i32_w]
          rfl
         refine Sq.tk (v := ?_) (a' := ?_) 40 (some 49) #[true, true, true, true, true, true, true, true, true, true, true, true, true, true, true, true, true, true, true, true, true, true, true, true, true, true, true, true, true, true, true, true, true, true, true, true, true, true, true, true, true, false, false, false, false, false, false, false, false, false, false, false, false, false, false, false, false, false, false] HT_ HW_ hHeld ?_ ?_ ?_
         rotate_left
         ·rintro w' ⟨s0, s1, s2, s3⟩
          go_simp
          with_reducible rfl
         rotate_left
         ·simp only [Act.put, List.setIfInBounds_toArray, List.set_cons_zero, List.set_cons_succ, i64_w, i32_w]
          rfl
         refine Sq.tk (v := ?_) (a' := ?_) 41 (some 50) #[true, true, true, true, true, true, true, true, true, true, true, true, true, true, true, true, true, true, true, true, true, true, true, true, true, true, true, true, true, true, true, true, true, true, true, true, true, true, true, true, true, true, false, false, false, false, false, false, false, false, false, false, false, false, false, false, false, false, false] HT_ HW_ hHeld ?_ ?_ ?_
         rotate_left
         ·rintro w' ⟨s0, s1, s2, s3⟩
          go_simp
          with_reducible rfl
         rotate_left
         ·simp only [Act.put, List.setIfInBounds_toArray, List.set_cons_zero, List.set_cons_succ, i64_w, i32_w]
          rfl
         refine Sq.tk (v := ?_) (a' := ?_) 43 (some 52) #[true, true, true, true, true, true, true, true, true, true, true, true, true, true, true, true, true, true, true, true, true, true, true, true, true, true, true, true, true, true, true, true, true, true, true, true, true, true, true, true, true, true, false, true, false, false, false, false, false, false, false, false, false, false, false, false, false, false, false] HT_ HW_ hHeld ?_ ?_ ?_
         rotate_left
         ·rintro w' ⟨s0, s1, s2, s3⟩
          go_simp
          with_reducible rfl
         rotate_left
         ·simp only [Act.put, List.setIfInBounds_toArray, List.set_cons_zero, List.set_cons_succ, i64_w, i32_w]
          rfl
         refine Sq.tk (v := ?_) (a' := ?_) 44 (some 53) #[true, true, true, true, true, true, true, true, true, true, true, true, true, true, true, true, true, true, true, true, true, true, true, true, true, true, true, true, true, true, true, true, true, true, true, true, true, true, true, true, true, true, false, true, true, false, false, false, false, false, false, false, false, false, false, false, false, false, false] HT_ HW_ hHeld ?_ ?_ ?_
         rotate_left
         ·rintro w' ⟨s0, s1, s2, s3⟩
          go_simp
          with_reducible rfl
         rotate_left
         ·simp only [Act.put, List.setIfInBounds_toArray, List.set_cons_zero, List.set_cons_succ, i64_w, i32_w]
          rfl
         refine one_ (i := 42) (N := some 51) #[true, true, true, true, true, true, true, true, true, true, true, true, true, true, true, true, true, true, true, true, true, true, true, true, true, true, true, true, true, true, true, true, true, true, true, true, true, true, true, true, true, true, true, true, true, false, false, false, false, false, false, false, false, false, false, false, false, false, false] rfl rfl (one_of HT_.out (by kernel_rfl)) (by decide) (fun K hK => ?_)
         refine goes_ Try.func72 (by kernel_rfl) rfl #[.agg #[.bool a0_0, .slice A0_1 l0_1.length c0_1], .agg #[.bool a1_0, .slice A1_1 l1_1.length c1_1]] (by rfl) rfl rfl (by (try simp only [List.map_toArray, List.map_cons, List.map_nil]); first | done | rfl | (simp only [List.length_drop, List.length_take]; rfl)) ?_
         with_reducible refine (integer_Cmp.calls a0_0 _ _ l0_1 a1_0 _ _ l1_1 t207 _ ?side1 ?side2 ?side3 ?side4 A25.out).mono ?_
         (case side1 => exact Sq.ca (Kd.C_below HR0_1.out HB.out))
         (case side2 => exact HC0_1.out)
         (case side3 => exact Sq.ca (Kd.C_below HR1_1.out HB.out))
         (case side4 => exact HC1_1.out)
         rintro e w64 ⟨rfl, hb⟩
         refine ⟨_, rfl, ?_⟩
         replace HO165 := Aside0.mk (Kd.R_below (Sq.al HO165) hb)
         replace HO169 := Aside0.mk (Kd.R_below (Sq.al HO169) hb)
         replace HO174 := Aside0.mk (Kd.R_below (Sq.al HO174) hb)
         replace HO178 := Aside0.mk (Kd.R_below (Sq.al HO178) hb)
         replace HO183 := Aside0.mk (Kd.R_below (Sq.al HO183) hb)
         replace HO187 := Aside0.mk (Kd.R_below (Sq.al HO187) hb)
         replace HO192 := Aside0.mk (Kd.R_below (Sq.al HO192) hb)
         replace HO196 := Aside0.mk (Kd.R_below (Sq.al HO196) hb)
         replace HO201 := Aside0.mk (Kd.R_below (Sq.al HO201) hb)
         replace HO205 := Aside0.mk (Kd.R_below (Sq.al HO205) hb)
         replace BK159 := Sq.bb BK159 hb
         replace BK160 := Sq.bb BK160 hb
         replace HB := Sq.bs HB hb
         (try clear hb)
         (try clear hb2)
         (try clear hk)
         (try clear hi)
         refine hK.out _ _ ⟨(blk_cell BK159.out 0).trans rfl, (blk_cell BK159.out 1).trans rfl, (blk_cell BK160.out 0).trans rfl, (blk_cell BK160.out 1).trans rfl⟩ (fun hHeld => ?_)
         clear hK K
         refine norm_ (a' := ?_) ?_ ?_
         rotate_left
         ·show Act.put _ (some 51) _ = _
          simp only [Act.put, List.setIfInBounds_toArray, List.set_cons_zero, List.set_cons_succ, i64_w, i32_w]
          rfl
         refine one_ (i := 45) (N := some 54) #[true, true, true, true, true, true, true, true, true, true, true, true, true, true, true, true, true, true, true, true, true, true, true, true, true, true, true, true, true, true, true, true, true, true, true, true, true, true, true, true, true, true, true, true, true, true, false, false, false, false, false, false, false, false, false, false, false, false, false] rfl rfl (one_of HT_.out (by kernel_rfl)) (by decide) (fun K hK => ?_)
         refine goes_ Try.func78 (by kernel_rfl) rfl #[.agg #[.bool a0_0, .slice A0_1 l0_1.length c0_1], .agg #[.bool a1_0, .slice A1_1 l1_1.length c1_1]] (by rfl) rfl rfl (by (try simp only [List.map_toArray, List.map_cons, List.map_nil]); first | done | rfl | (simp only [List.length_drop, List.length_take]; rfl)) ?_
         with_reducible refine (foliotref02_Cmp.calls a0_0 _ _ l0_1 a1_0 _ _ l1_1 t208 _ ?side1 ?side2 ?side3 ?side4 A26.out).mono ?_
         (case side1 => exact Sq.ca (Kd.C_below HR0_1.out HB.out))
         (case side2 => exact HC0_1.out)
         (case side3 => exact Sq.ca (Kd.C_below HR1_1.out HB.out))
         (case side4 => exact HC1_1.out)
         rintro e w65 ⟨rfl, hb⟩
         refine ⟨_, rfl, ?_⟩
         replace HO165 := Aside0.mk (Kd.R_below (Sq.al HO165) hb)
         replace HO169 := Aside0.mk (Kd.R_below (Sq.al HO169) hb)
         replace HO174 := Aside0.mk (Kd.R_below (Sq.al HO174) hb)
         replace HO178 := Aside0.mk (Kd.R_below (Sq.al HO178) hb)
         replace HO183 := Aside0.mk (Kd.R_below (Sq.al HO183) hb)
         replace HO187 := Aside0.mk (Kd.R_below (Sq.al HO187) hb)
         replace HO192 := Aside0.mk (Kd.R_below (Sq.al HO192) hb)
         replace HO196 := Aside0.mk (Kd.R_below (Sq.al HO196) hb)
         replace HO201 := Aside0.mk (Kd.R_below (Sq.al HO201) hb)
         replace HO205 := Aside0.mk (Kd.R_below (Sq.al HO205) hb)
         replace BK159 := Sq.bb BK159 hb
         replace BK160 := Sq.bb BK160 hb
         replace HB := Sq.bs HB hb
         (try clear hb)
         (try clear hb2)
         (try clear hk)
         (try clear hi)
         refine hK.out _ _ ⟨(blk_cell BK159.out 0).trans rfl, (blk_cell BK159.out 1).trans rfl, (blk_cell BK160.out 0).trans rfl, (blk_cell BK160.out 1).trans rfl⟩ (fun hHeld => ?_)
         clear hK K
         refine norm_ (a' := ?_) ?_ ?_
         rotate_left
         ·show Act.put _ (some 54) _ = _
          simp only [Act.put, List.setIfInBounds_toArray, List.set_cons_zero, List.set_cons_succ, i64_w, i32_w]
          rfl
         refine Sq.pu (v := ?_) (a' := ?_) 46 (some 55) #[true, true, true, true, true, true, true, true, true, true, true, true, true, true, true, true, true, true, true, true, true, true, true, true, true, true, true, true, true, true, true, true, true, true, true, true, true, true, true, true, true, true, true, true, true, true, true, false, false, false, false, false, false, false, false, false, false, false, false] HT_ ?_ ?_ ?_
         rotate_left
         ·intro w'
          go_simp
          with_reducible rfl
         rotate_left
         ·simp only [Act.put, List.setIfInBounds_toArray, List.set_cons_zero, List.set_cons_succ, i64_w, i32_w]
          rfl
         refine Sq.pu (v := ?_) (a' := ?_) 47 (some 56) #[true, true, true, true, true, true, true, true, true, true, true, true, true, true, true, true, true, true, true, true, true, true, true, true, true, true, true, true, true, true, true, true, true, true, true, true, true, true, true, true, true, true, true, true, true, true, true, true, false, false, false, false, false, false, false, false, false, false, false] HT_ ?_ ?_ ?_
         rotate_left
         ·intro w'
          go_simp
          with_reducible rfl
         rotate_left
         ·simp only [Act.put, List.setIfInBounds_toArray, List.set_cons_zero, List.set_cons_succ, i64_w, i32_w]
          rfl
         refine Sq.pu (v := ?_) (a' := ?_) 48 (some 57) #[true, true, true, true, true, true, true, true, true, true, true, true, true, true, true, true, true, true, true, true, true, true, true, true, true, true, true, true, true, true, true, true, true, true, true, true, true, true, true, true, true, true, true, true, true, true, true, true, true, false, false, false, false, false, false, false, false, false, false] HT_ ?_ ?_ ?_
         rotate_left
         ·intro w'
          go_simp
          with_reducible rfl
         rotate_left
         ·simp only [Act.put, List.setIfInBounds_toArray, List.set_cons_zero, List.set_cons_succ, i64_w, i32_w]
          rfl
         refine Sq.tk (v := ?_) (a' := ?_) 49 (some 58) #[true, true, true, true, true, true, true, true, true, true, true, true, true, true, true, true, true, true, true, true, true, true, true, true, true, true, true, true, true, true, true, true, true, true, true, true, true, true, true, true, true, true, true, true, true, true, true, true, true, true, false, false, false, false, false, false, false, false, false] HT_ HW_ hHeld ?_ ?_ ?_
         rotate_left
         ·rintro w' ⟨s0, s1, s2, s3⟩
          go_simp
          with_reducible rfl
         rotate_left
         ·simp only [Act.put, List.setIfInBounds_toArray, List.set_cons_zero, List.set_cons_succ, i64_w, i32_w]
          rfl
         refine Sq.tk (v := ?_) (a' := ?_) 51 (some 60) #[true, true, true, true, true, true, true, true, true, true, true, true, true, true, true, true, true, true, true, true, true, true, true, true, true, true, true, true, true, true, true, true, true, true, true, true, true, true, true, true, true, true, true, true, true, true, true, true, true, true, false, true, false, false, false, false, false, false, false] HT_ HW_ hHeld ?_ ?_ ?_
         rotate_left
         ·rintro w' ⟨s0, s1, s2, s3⟩
          go_simp
          with_reducible rfl
         rotate_left
         ·simp only [Act.put, List.setIfInBounds_toArray, List.set_cons_zero, List.set_cons_succ, i64_w, i32_w]
          rfl
         refine one_ (i := 50) (N := some 59) #[true, true, true, true, true, true, true, true, true, true, true, true, true, true, true, true, true, true, true, true, true, true, true, true, true, true, true, true, true, true, true, true, true, true, true, true, true, true, true, true, true, true, true, true, true, true, true, true, true, true, true, true, false, false, false, false, false, false, false] rfl rfl (one_of HT_.out (by kernel_rfl)) (by decide) (fun K hK => ?_)
         refine goes_ Try.func66 (by kernel_rfl) rfl #[.agg #[.bool a0_0, .slice A0_1 l0_1.length c0_1]] (by rfl) rfl rfl (by (try simp only [List.map_toArray, List.map_cons, List.map_nil]); first | done | rfl | (simp only [List.length_drop, List.length_take]; rfl)) ?_
         with_reducible refine (integer_Sign.calls a0_0 _ _ l0_1 t209 _ ?side1 ?side2 A28.out).mono ?_
         (case side1 => exact Sq.ca (Kd.C_below HR0_1.out HB.out))
         (case side2 => exact HC0_1.out)
         rintro e w66 ⟨rfl, hb⟩
         refine ⟨_, rfl, ?_⟩
         replace HO165 := Aside0.mk (Kd.R_below (Sq.al HO165) hb)
         replace HO169 := Aside0.mk (Kd.R_below (Sq.al HO169) hb)
         replace HO174 := Aside0.mk (Kd.R_below (Sq.al HO174) hb)
         replace HO178 := Aside0.mk (Kd.R_below (Sq.al HO178) hb)
         replace HO183 := Aside0.mk (Kd.R_below (Sq.al HO183) hb)
         replace HO187 := Aside0.mk (Kd.R_below (Sq.al HO187) hb)
         replace HO192 := Aside0.mk (Kd.R_below (Sq.al HO192) hb)
         replace HO196 := Aside0.mk (Kd.R_below (Sq.al HO196) hb)
         replace HO201 := Aside0.mk (Kd.R_below (Sq.al HO201) hb)
         replace HO205 := Aside0.mk (Kd.R_below (Sq.al HO205) hb)
         replace BK159 := Sq.bb BK159 hb
         replace BK160 := Sq.bb BK160 hb
         replace HB := Sq.bs HB hb
         (try clear hb)
         (try clear hb2)
         (try clear hk)
         (try clear hi)
         refine hK.out _ _ ⟨(blk_cell BK159.out 0).trans rfl, (blk_cell BK159.out 1).trans rfl, (blk_cell BK160.out 0).trans rfl, (blk_cell BK160.out 1).trans rfl⟩ (fun hHeld => ?_)
         clear hK K
         refine norm_ (a' := ?_) ?_ ?_
         rotate_left
         ·show Act.put _ (some 59) _ = _
          simp only [Act.put, List.setIfInBounds_toArray, List.set_cons_zero, List.set_cons_succ, i64_w, i32_w]
          rfl
         refine one_ (i := 52) (N := some 61) #[true, true, true, true, true, true, true, true, true, true, true, true, true, true, true, true, true, true, true, true, true, true, true, true, true, true, true, true, true, true, true, true, true, true, true, true, true, true, true, true, true, true, true, true, true, true, true, true, true, true, true, true, true, false, false, false, false, false, false] rfl rfl (one_of HT_.out (by kernel_rfl)) (by decide) (fun K hK => ?_)
         refine goes_ Try.func79 (by kernel_rfl) rfl #[.agg #[.bool a0_0, .slice A0_1 l0_1.length c0_1]] (by rfl) rfl rfl (by (try simp only [List.map_toArray, List.map_cons, List.map_nil]); first | done | rfl | (simp only [List.length_drop, List.length_take]; rfl)) ?_
         with_reducible refine (foliotref02_Sign.calls a0_0 _ _ l0_1 t210 _ ?side1 ?side2 A29.out).mono ?_
         (case side1 => exact Sq.ca (Kd.C_below HR0_1.out HB.out))
         (case side2 => exact HC0_1.out)
         rintro e w67 ⟨rfl, hb⟩
         refine ⟨_, rfl, ?_⟩
         replace HO165 := Aside0.mk (Kd.R_below (Sq.al HO165) hb)
         replace HO169 := Aside0.mk (Kd.R_below (Sq.al HO169) hb)
         replace HO174 := Aside0.mk (Kd.R_below (Sq.al HO174) hb)
         replace HO178 := Aside0.mk (Kd.R_below (Sq.al HO178) hb)
         replace HO183 := Aside0.mk (Kd.R_below (Sq.al HO183) hb)
         replace HO187 := Aside0.mk (Kd.R_below (Sq.al HO187) hb)
         replace HO192 := Aside0.mk (Kd.R_below (Sq.al HO192) hb)
         replace HO196 := Aside0.mk (Kd.R_below (Sq.al HO196) hb)
         replace HO201 := Aside0.mk (Kd.R_below (Sq.al HO201) hb)
         replace HO205 := Aside0.mk (Kd.R_below (Sq.al HO205) hb)
         replace BK159 := Sq.bb BK159 hb
         replace BK160 := Sq.bb BK160 hb
         replace HB := Sq.bs HB hb
         (try clear hb)
         (try clear hb2)
         (try clear hk)
         (try clear hi)
         refine hK.out _ _ ⟨(blk_cell BK159.out 0).trans rfl, (blk_cell BK159.out 1).trans rfl, (blk_cell BK160.out 0).trans rfl, (blk_cell BK160.out 1).trans rfl⟩ (fun hHeld => ?_)
         clear hK K
         refine norm_ (a' := ?_) ?_ ?_
         rotate_left
         ·show Act.put _ (some 61) _ = _
          simp only [Act.put, List.setIfInBounds_toArray, List.set_cons_zero, List.set_cons_succ, i64_w, i32_w]
          rfl
         refine Sq.pu (v := ?_) (a' := ?_) 53 (some 62) #[true, true, true, true, true, true, true, true, true, true, true, true, true, true, true, true, true, true, true, true, true, true, true, true, true, true, true, true, true, true, true, true, true, true, true, true, true, true, true, true, true, true, true, true, true, true, true, true, true, true, true, true, true, true, false, false, false, false, false] HT_ ?_ ?_ ?_
         rotate_left
         ·intro w'
          go_simp
          with_reducible rfl
         rotate_left
         ·simp only [Act.put, List.setIfInBounds_toArray, List.set_cons_zero, List.set_cons_succ, i64_w, i32_w]
          rfl
         refine Sq.pu (v := ?_) (a' := ?_) 54 (some 63) #[true, true, true, true, true, true, true, true, true, true, true, true, true, true, true, true, true, true, true, true, true, true, true, true, true, true, true, true, true, true, true, true, true, true, true, true, true, true, true, true, true, true, true, true, true, true, true, true, true, true, true, true, true, true, true, false, false, false, false] HT_ ?_ ?_ ?_
         rotate_left
         ·intro w'
          go_simp
          with_reducible rfl
         rotate_left
         ·simp only [Act.put, List.setIfInBounds_toArray, List.set_cons_zero, List.set_cons_succ, i64_w, i32_w]
          rfl
         refine Sq.pu (v := ?_) (a' := ?_) 55 (some 64) #[true, true, true, true, true, true, true, true, true, true, true, true, true, true, true, true, true, true, true, true, true, true, true, true, true, true, true, true, true, true, true, true, true, true, true, true, true, true, true, true, true, true, true, true, true, true, true, true, true, true, true, true, true, true, true, true, false, false, false] HT_ ?_ ?_ ?_
         rotate_left
         ·intro w'
          go_simp
          with_reducible rfl
         rotate_left
         ·simp only [Act.put, List.setIfInBounds_toArray, List.set_cons_zero, List.set_cons_succ, i64_w, i32_w]
          rfl
         refine one_ (i := 56) (N := some 65) #[true, true, true, true, true, true, true, true, true, true, true, true, true, true, true, true, true, true, true, true, true, true, true, true, true, true, true, true, true, true, true, true, true, true, true, true, true, true, true, true, true, true, true, true, true, true, true, true, true, true, true, true, true, true, true, true, true, false, false] rfl rfl (one_of HT_.out (by kernel_rfl)) (by decide) (fun K hK => ?_)
         refine goes_ Try.func57 (by kernel_rfl) rfl #[] (by rfl) rfl rfl (by (try simp only [List.map_toArray, List.map_cons, List.map_nil]); first | done | rfl | (simp only [List.length_drop, List.length_take]; rfl)) ?_
         with_reducible refine (foliotlaw02_awake.calls  t211 _ A31.out).mono ?_
         rintro e w68 ⟨rfl, hb⟩
         refine ⟨_, rfl, ?_⟩
         replace HO165 := Aside0.mk (Kd.R_below (Sq.al HO165) hb)
         replace HO169 := Aside0.mk (Kd.R_below (Sq.al HO169) hb)
         replace HO174 := Aside0.mk (Kd.R_below (Sq.al HO174) hb)
         replace HO178 := Aside0.mk (Kd.R_below (Sq.al HO178) hb)
         replace HO183 := Aside0.mk (Kd.R_below (Sq.al HO183) hb)
         replace HO187 := Aside0.mk (Kd.R_below (Sq.al HO187) hb)
         replace HO192 := Aside0.mk (Kd.R_below (Sq.al HO192) hb)
         replace HO196 := Aside0.mk (Kd.R_below (Sq.al HO196) hb)
         replace HO201 := Aside0.mk (Kd.R_below (Sq.al HO201) hb)
         replace HO205 := Aside0.mk (Kd.R_below (Sq.al HO205) hb)
         replace BK159 := Sq.bb BK159 hb
         replace BK160 := Sq.bb BK160 hb
         replace HB := Sq.bs HB hb
         (try clear hb)
         (try clear hb2)
         (try clear hk)
         (try clear hi)
         refine hK.out _ _ ⟨(blk_cell BK159.out 0).trans rfl, (blk_cell BK159.out 1).trans rfl, (blk_cell BK160.out 0).trans rfl, (blk_cell BK160.out 1).trans rfl⟩ (fun hHeld => ?_)
         clear hK K
         refine norm_ (a' := ?_) ?_ ?_
         rotate_left
         ·show Act.put _ (some 65) _ = _
          simp only [Act.put, List.setIfInBounds_toArray, List.set_cons_zero, List.set_cons_succ, i64_w, i32_w]
          rfl
         refine Sq.pu (v := ?_) (a' := ?_) 57 (some 66) #[true, true, true, true, true, true, true, true, true, true, true, true, true, true, true, true, true, true, true, true, true, true, true, true, true, true, true, true, true, true, true, true, true, true, true, true, true, true, true, true, true, true, true, true, true, true, true, true, true, true, true, true, true, true, true, true, true, true, false] HT_ ?_ ?_ ?_
         rotate_left
         ·intro w'
          go_simp
          with_reducible rfl
         rotate_left
         ·simp only [Act.put, List.setIfInBounds_toArray, List.set_cons_zero, List.set_cons_succ, i64_w, i32_w]
          rfl
         refine Sq.pu (v := ?_) (a' := ?_) 58 (some 4) #[true, true, true, true, true, true, true, true, true, true, true, true, true, true, true, true, true, true, true, true, true, true, true, true, true, true, true, true, true, true, true, true, true, true, true, true, true, true, true, true, true, true, true, true, true, true, true, true, true, true, true, true, true, true, true, true, true, true, true] HT_ ?_ ?_ ?_
         rotate_left
         ·intro w'
          go_simp
          with_reducible rfl
         rotate_left
         ·simp only [Act.put, List.setIfInBounds_toArray, List.set_cons_zero, List.set_cons_succ, i64_w, i32_w]
          rfl
         refine done_ (done_of HT_.out (by kernel_rfl)) ?_
         try go_wp2
         go_ret
         exact ⟨by first | rfl | (simp [errW_none, errW_some] <;> rfl) | (simp [*, errW_none, errW_some] <;> rfl), Sq.bl HB⟩
        ·rw [if_neg c30] at H
         have c30b0 : (t209 == t210) = false := beq_eq_false_iff_ne.mpr c30
         have c30b1 : (t209 != t210) = true := bne_iff_ne.mpr c30
         exact absurd H (by simp)
       ·rw [if_neg c27] at H
        have c27b0 : (t207 == t208) = false := beq_eq_false_iff_ne.mpr c27
        have c27b1 : (t207 != t208) = true := bne_iff_ne.mpr c27
        exact absurd H (by simp)
      ·replace c24 := Bool.eq_false_iff.mpr c24
       subst c24
       have H1 : (none) = some r := by rw [if_neg (show ¬ (false = true) by decide)] at H; exact H
       clear H
       have H := H1
       clear H1
       exact absurd H (by simp)
     ·replace c20 := Bool.eq_false_iff.mpr c20
      subst c20
      have H1 : (none) = some r := by rw [if_neg (show ¬ (false = true) by decide)] at H; exact H
      clear H
      have H := H1
      clear H1
      exact absurd H (by simp)
    ·replace c16 := Bool.eq_false_iff.mpr c16
     subst c16
     have H1 : (none) = some r := by rw [if_neg (show ¬ (false = true) by decide)] at H; exact H
     clear H
     have H := H1
     clear H1
     exact absurd H (by simp)
   ·replace c12 := Bool.eq_false_iff.mpr c12
    subst c12
    have H1 : (none) = some r := by rw [if_neg (show ¬ (false = true) by decide)] at H; exact H
    clear H
    have H := H1
    clear H1
    exact absurd H (by simp)
  ·replace c8 := Bool.eq_false_iff.mpr c8
   subst c8
   have H1 : (none) = some r := by rw [if_neg (show ¬ (false = true) by decide)] at H; exact H
   clear H
   have H := H1
   clear H1
   exact absurd H (by simp)
 ·replace c4 := Bool.eq_false_iff.mpr c4
  subst c4
  have H1 : (some true) = some r := by rw [if_neg (show ¬ (false = true) by decide)] at H; exact H
  clear H
  have H := H1
  clear H1
  obtain rfl := Option.some.inj H
  go_enter Try.func16, Try.ntmps16
  go_wp2_with (first | ((with_reducible refine gate_dst (N := 2) rfl ?_); refine box_event ?hg (N := 2) ?hd (cs := #[.bool a0_0, .slice A0_1 l0_1.length c0_1]) (t := 39) ?hr ?_; (case hd => rfl); (case hg => rfl); (case hr => first | (go_simp; done) | (go_simp; rfl)); intro gb159 hg w69 hbox hb; have BK159 := Aside0.mk (hbox); have GW159 := Sq.gw HB hg; have GE159 := Sq.gw HB hg; replace HB := Sq.bs HB hb; clear hb hbox hg) | ((with_reducible refine gate_dst (N := 3) rfl ?_); refine box_event ?hg (N := 3) ?hd (cs := #[.bool a1_0, .slice A1_1 l1_1.length c1_1]) (t := 39) ?hr ?_; (case hd => rfl); (case hg => rfl); (case hr => first | (go_simp; done) | (go_simp; rfl)); intro gb160 hg w70 hbox hb; have BK160 := Aside0.mk (hbox); have GW160 := Sq.gw HB hg; have GE160 := Sq.gw HB hg; have NB159_160 := Sq.nl BK159 hg; have NB160_159 := Sq.ng BK159 hg; replace BK159 := Sq.bb BK159 hb; replace HB := Sq.bs HB hb; clear hb hbox hg; have hnb71 := NB159_160.out; have hnc71 := NB160_159.out; have hcz72_0 := Sq.bc BK159 0 (.bool a0_0); have hcz72_1 := Sq.bc BK159 1 (.slice A0_1 l0_1.length c0_1); have hfz72_0 := blk_frozen BK159.out 0; have hfz72_1 := blk_frozen BK159.out 1; have hcz73_0 := Sq.bc BK160 0 (.bool a1_0); have hcz73_1 := Sq.bc BK160 1 (.slice A1_1 l1_1.length c1_1); have hfz73_0 := blk_frozen BK160.out 0; have hfz73_1 := blk_frozen BK160.out 1) | ((with_reducible refine gate_callee (f := 53) rfl ?_); refine Sq.gl (some 7) Try.func53 #[.agg #[.bool a0_0, .slice A0_1 l0_1.length c0_1], .agg #[.bool a1_0, .slice A1_1 l1_1.length c1_1]] ?_; (with_reducible refine (foliotlaw02_few.calls a0_0 _ _ l0_1 a1_0 _ _ l1_1 false _ ?side1 ?side2 ?side3 ?side4 A3.out).mono ?_); (case side1 => exact Sq.ca (Kd.C_below HR0_1.out HB.out)); (case side2 => exact HC0_1.out); (case side3 => exact Sq.ca (Kd.C_below HR1_1.out HB.out)); (case side4 => exact HC1_1.out); rintro e w74 ⟨rfl, hb⟩; refine ⟨_, rfl, ?_⟩; replace BK159 := Sq.bb BK159 hb; replace BK160 := Sq.bb BK160 hb; replace HB := Sq.bs HB hb; (try clear hb); (try clear hb2); (try clear hk); (try clear hi)))
  go_ret
  exact ⟨by first | rfl | (simp [errW_none, errW_some] <;> rfl) | (simp [*, errW_none, errW_some] <;> rfl), Sq.bl HB⟩
end Go.Proofs.Ytaclkccgjpjdjaa.BS
