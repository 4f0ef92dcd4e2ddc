import Derived.Test.YtaclkccgjpjdjaaRows
import Derived.ProofKit
import Derived.JoinedOf
import Derived.KernelRfl
import Derived.Test.YtaclkccgjpjdjaaQgjlbkgcmgkNx1
import Derived.Test.YtaclkccgjpjdjaaQmaihhfchfkNx5
import Derived.Laws.BitsAllLaws
import Derived.Test.YtaclkccgjpjdjaaQmbbhdnickjNx2
import Derived.Test.YtaclkccgjpjdjaaQipnibkgakmNx3
import Derived.Test.YtaclkccgjpjdjaaQdpfkpenbfgNx4
import Derived.Test.YtaclkccgjpjdjaaQlncljbhioeNx7
import Derived.Lib.IndexBytes
import Derived.Test.YtaclkccgjpjdjaaQhocpdibajnNx6
import Derived.Test.YtaclkccgjpjdjaaQgbhdojcicpNx8
import Derived.Test.YtaclkccgjpjdjaaQmmagfhccjlNx10
import Derived.Test.YtaclkccgjpjdjaaQkbfbmkaafeNx9
import Derived.Test.YtaclkccgjpjdjaaQcooddfocpmNx0
import Derived.Test.YtaclkccgjpjdjaaQipcojhjkmgM
section
/- What a row's closed facts ask of the cut's own word: told once, with the program a variable. -/
namespace Go.Proofs.Ytaclkccgjpjdjaa.Io
theorem ws_word : ∀ (w l : List Char), (∀ c ∈ w, c ≠ Char.ofNat 32) → wordsSigns (w ++ Char.ofNat 32 :: l) = w :: wordsSigns l
  | [], l, _ => rfl
  | c :: w, l, h => by
    have ih := ws_word w l (fun x hx => h x (by simp [hx]))
    rw [List.cons_append, wordsSigns, ih]
    intro e
    exact h c (by simp) e
def ioH : List Nat := [104, 97, 114, 110, 101, 115, 115]
def ioS : List Nat := [102, 49, 51, 55, 101, 53, 51, 101, 98, 52, 101, 53, 99, 100, 100, 51, 53, 97, 97, 51, 53, 49, 56, 55, 102, 55, 52, 52, 57, 102, 51, 98, 100, 100, 102, 53, 52, 100, 102, 100, 55, 49, 98, 53, 99, 101, 56, 100, 48, 56, 102, 56, 102, 52, 48, 102, 99, 102, 56, 97, 51, 101, 100, 56]
def ioC : List Nat := [99, 117, 116]
def ioR : List Nat := [97, 116, 32, 102, 111, 108, 105, 111, 116, 47, 102, 111, 108, 105, 111, 116, 108, 97, 119, 48, 49, 46, 78, 97, 116, 68, 105, 118, 105, 100, 101, 115, 32, 102, 111, 108, 105, 111, 116, 47, 102, 111, 108, 105, 111, 116, 108, 97, 119, 48, 49, 46, 78, 97, 116, 84, 101, 120, 116, 115, 32, 102, 111, 108, 105, 111, 116, 47, 102, 111, 108, 105, 111, 116, 108, 97, 119, 48, 49, 46, 78, 97, 116, 82, 101, 115, 116, 32, 102, 111, 108, 105, 111, 116, 47, 102, 111, 108, 105, 111, 116, 108, 97, 119, 48, 49, 46, 78, 97, 116, 83, 104, 97, 114, 101, 115, 32, 102, 111, 108, 105, 111, 116, 47, 102, 111, 108, 105, 111, 116, 108, 97, 119, 48, 49, 46, 78, 97, 116, 66, 97, 99, 107, 32, 102, 111, 108, 105, 111, 116, 47, 102, 111, 108, 105, 111, 116, 108, 97, 119, 48, 49, 46, 78, 97, 116, 82, 105, 110, 103, 32, 102, 111, 108, 105, 111, 116, 47, 102, 111, 108, 105, 111, 116, 108, 97, 119, 48, 49, 46, 78, 97, 116, 83, 117, 109, 115, 32, 102, 111, 108, 105, 111, 116, 47, 102, 111, 108, 105, 111, 116, 108, 97, 119, 48, 50, 46, 73, 110, 116, 101, 103, 101, 114, 68, 105, 118, 105, 100, 101, 115, 32, 102, 111, 108, 105, 111, 116, 47, 102, 111, 108, 105, 111, 116, 108, 97, 119, 48, 50, 46, 73, 110, 116, 101, 103, 101, 114, 84, 101, 120, 116, 115, 32, 102, 111, 108, 105, 111, 116, 47, 102, 111, 108, 105, 111, 116, 108, 97, 119, 48, 50, 46, 73, 110, 116, 101, 103, 101, 114, 82, 105, 110, 103, 32, 102, 111, 108, 105, 111, 116, 47, 102, 111, 108, 105, 111, 116, 108, 97, 119, 48, 50, 46, 73, 110, 116, 101, 103, 101, 114, 83, 109, 97, 108, 108, 32, 102, 111, 108, 105, 111, 116, 47, 102, 111, 108, 105, 111, 116, 108, 97, 119, 48, 50, 46, 73, 110, 116, 101, 103, 101, 114, 82, 101, 115, 116, 32, 102, 111, 108, 105, 111, 116, 47, 102, 111, 108, 105, 111, 116, 108, 97, 119, 48, 50, 46, 73, 110, 116, 101, 103, 101, 114, 79, 114, 100, 101, 114, 32, 102, 111, 108, 105, 111, 116, 47, 102, 111, 108, 105, 111, 116, 108, 97, 119, 48, 50, 46, 73, 110, 116, 101, 103, 101, 114, 83, 117, 109, 115, 32, 102, 111, 108, 105, 111, 116, 47, 102, 111, 108, 105, 111, 116, 108, 97, 119, 49, 56, 46, 83, 111, 108, 118, 101, 84, 101, 108, 108, 115, 32, 102, 111, 108, 105, 111, 116, 47, 102, 111, 108, 105, 111, 116, 108, 97, 119, 49, 56, 46, 83, 111, 108, 118, 101, 69, 120, 97, 99, 116, 32, 102, 111, 108, 105, 111, 116, 47, 102, 111, 108, 105, 111, 116, 108, 97, 119, 49, 56, 46, 83, 111, 108, 118, 101, 70, 105, 114, 115, 116, 32, 102, 111, 108, 105, 111, 116, 47, 102, 111, 108, 105, 111, 116, 108, 97, 119, 49, 56, 46, 83, 111, 108, 118, 101, 84, 119, 105, 99, 101, 32, 102, 111, 108, 105, 111, 116, 47, 102, 111, 108, 105, 111, 116, 108, 97, 119, 50, 55, 46, 83, 112, 101, 99, 68, 117, 97, 108, 32, 102, 111, 108, 105, 111, 116, 47, 102, 111, 108, 105, 111, 116, 108, 97, 119, 50, 55, 46, 83, 112, 101, 99, 83, 105, 110, 99, 101, 32, 102, 111, 108, 105, 111, 116, 47, 102, 111, 108, 105, 111, 116, 108, 97, 119, 50, 55, 46, 83, 112, 101, 99, 78, 111, 110, 101, 32, 102, 111, 108, 105, 111, 116, 47, 102, 111, 108, 105, 111, 116, 108, 97, 119, 48, 51, 46, 82, 97, 116, 105, 111, 84, 101, 120, 116, 115, 32, 102, 111, 108, 105, 111, 116, 47, 102, 111, 108, 105, 111, 116, 108, 97, 119, 48, 51, 46, 82, 97, 116, 105, 111, 80, 97, 114, 116, 115, 32, 102, 111, 108, 105, 111, 116, 47, 102, 111, 108, 105, 111, 116, 108, 97, 119, 48, 51, 46, 82, 97, 116, 105, 111, 79, 110, 101, 32, 102, 111, 108, 105, 111, 116, 47, 102, 111, 108, 105, 111, 116, 108, 97, 119, 48, 51, 46, 82, 97, 116, 105, 111, 66, 97, 99, 107, 32, 102, 111, 108, 105, 111, 116, 47, 102, 111, 108, 105, 111, 116, 108, 97, 119, 48, 51, 46, 82, 97, 116, 105, 111, 70, 105, 101, 108, 100, 32, 102, 111, 108, 105, 111, 116, 47, 102, 111, 108, 105, 111, 116, 108, 97, 119, 48, 51, 46, 82, 97, 116, 105, 111, 79, 114, 100, 101, 114]
theorem io : Try.checked.prog.initOrder = String.ofList (ioH.map Char.ofNat ++ Char.ofNat 32 :: (ioS.map Char.ofNat ++ Char.ofNat 32 :: (ioC.map Char.ofNat ++ Char.ofNat 32 :: ioR.map Char.ofNat))) := by kernel_rfl
theorem words : wordsSigns Try.checked.prog.initOrder.toList = ioH.map Char.ofNat :: ioS.map Char.ofNat :: ioC.map Char.ofNat :: wordsSigns (ioR.map Char.ofNat) := by
  rw [io, String.toList_ofList, ws_word _ _ (by decide +kernel), ws_word _ _ (by decide +kernel), ws_word _ _ (by decide +kernel)]
theorem behind (R : List (List Char)) : behindMainWord (ioH.map Char.ofNat :: ioS.map Char.ofNat :: ioC.map Char.ofNat :: R) = ioC.map Char.ofNat :: R := by kernel_rfl
theorem make_gen (P : Program) (C : List Char) (R : List (List Char)) (h : behindMainWord (wordsSigns P.initOrder.toList) = C :: R) (h1 : (C == "gc".toList) = false) (h2 : (C == "spec".toList) = false) (h3 : (C == "cut".toList) = true) : P.make = some Make.cut := by
  unfold Program.make; rw [h]; simp only [h1, h2, h3, Bool.or_self, Bool.true_or, if_true, Bool.false_eq_true, if_false]
theorem may_gen (P : Program) (C : List Char) (R : List (List Char)) (h : behindMainWord (wordsSigns P.initOrder.toList) = C :: R) (h3 : (C == "cut".toList) = true) (hs : stripLifts liftWords (C :: R) = ([], C :: R)) (hl : P.laysLater = false) (hb : P.bearsReflect = false) (hd : P.doorFits [] = true) : P.mayEnter = true := by
  have h4 : ((C :: R).head? == some "cut".toList) = true := by
    rw [List.head?_cons]; exact h3
  unfold Program.mayEnter; rw [h]; simp only [hs, hl, hb, hd, h4, List.contains_nil, Bool.not_false, Bool.or_true, Bool.and_self]
theorem lifts_gen (P : Program) (C : List Char) (R : List (List Char)) (h : behindMainWord (wordsSigns P.initOrder.toList) = C :: R) (h4 : (C == "carried".toList) = false) (hs : stripLifts liftWords (C :: R) = ([], C :: R)) : P.liftsFinal = false := by
  have h5 : ((C :: R).head? == some "carried".toList) = false := by
    rw [List.head?_cons]; exact h4
  unfold Program.liftsFinal Program.headLifts; rw [h]; simp only [hs, h5, Bool.false_and, Bool.false_or]
  split <;> rfl
theorem strip (R : List (List Char)) : stripLifts liftWords (ioC.map Char.ofNat :: R) = ([], ioC.map Char.ofNat :: R) := by kernel_rfl
theorem bh : behindMainWord (wordsSigns Try.checked.prog.initOrder.toList) = ioC.map Char.ofNat :: wordsSigns (ioR.map Char.ofNat) := by rw [words, behind]
theorem make_cut : Try.checked.prog.make = some Make.cut := make_gen _ _ _ bh (by kernel_rfl) (by kernel_rfl) (by kernel_rfl)
theorem may_enter : Try.checked.prog.mayEnter = true := may_gen _ _ _ bh (by kernel_rfl) (strip _) (by kernel_rfl) (by kernel_rfl) (by kernel_rfl)
theorem lifts_final : Try.checked.prog.liftsFinal = false := lifts_gen _ _ _ bh (by kernel_rfl) (strip _)
end Go.Proofs.Ytaclkccgjpjdjaa.Io
end
section
namespace Go.Proofs.Ytaclkccgjpjdjaa.Nt
def val : List Int → Nat
  | [] => 0
  | x :: l => x.toNat + 4294967296 * val l
def lim (l : List Int) : Prop := ∀ x ∈ l, 0 ≤ x ∧ x < 4294967296
def ofF : Nat → Nat → List Int
  | 0, _ => []
  | k + 1, n => if n = 0 then [] else ((n % 4294967296 : Nat) : Int) :: ofF k (n / 4294967296)
def ofN (n : Nat) : List Int := ofF n n
theorem ofF_zero (k : Nat) : ofF k 0 = [] := by cases k <;> simp [ofF]
theorem ofF_eq : ∀ (k m n : Nat), n ≤ k → n ≤ m → ofF k n = ofF m n
  | 0, m, n, h, _ => by obtain rfl : n = 0 := by omega
                        simp [ofF_zero]
  | k + 1, 0, n, _, h => by obtain rfl : n = 0 := by omega
                            simp [ofF_zero]
  | k + 1, m + 1, n, h, h' => by
    by_cases e : n = 0
    · subst e; simp [ofF]
    · simp only [ofF, if_neg e]; rw [ofF_eq k m (n / 4294967296) (by omega) (by omega)]
theorem ofN_zero : ofN 0 = [] := rfl
theorem ofN_pos {n : Nat} (h : n ≠ 0) : ofN n = ((n % 4294967296 : Nat) : Int) :: ofN (n / 4294967296) := by
  unfold ofN
  obtain ⟨k, rfl⟩ : ∃ k, n = k + 1 := ⟨n - 1, by omega⟩
  simp only [ofF, if_neg h]
  rw [ofF_eq k ((k + 1) / 4294967296) _ (by omega) (by omega)]
theorem val_nil : val [] = 0 := rfl
theorem val_cons (x : Int) (l : List Int) : val (x :: l) = x.toNat + 4294967296 * val l := rfl
theorem val_ofN (n : Nat) : val (ofN n) = n := by
  induction n using Nat.strongRecOn with
  | _ n ih =>
    by_cases h : n = 0
    · subst h; rfl
    · rw [ofN_pos h, val_cons, ih _ (by omega), Int.toNat_natCast]; omega
theorem lim_nil : lim [] := by intro x h; cases h
theorem lim_cons {x : Int} {l : List Int} : lim (x :: l) ↔ (0 ≤ x ∧ x < 4294967296) ∧ lim l := by simp [lim]
theorem lim_append {l m : List Int} : lim (l ++ m) ↔ lim l ∧ lim m := by
  simp only [lim, List.mem_append]
  exact ⟨fun h => ⟨fun x hx => h x (.inl hx), fun x hx => h x (.inr hx)⟩, fun h x hx => hx.elim (h.1 x) (h.2 x)⟩
theorem lim_ofN (n : Nat) : lim (ofN n) := by
  induction n using Nat.strongRecOn with
  | _ n ih =>
    by_cases h : n = 0
    · subst h; exact lim_nil
    · rw [ofN_pos h, lim_cons]; exact ⟨by omega, ih _ (by omega)⟩
theorem ofN_inj {m n : Nat} (h : ofN m = ofN n) : m = n := by rw [← val_ofN m, h, val_ofN]
theorem ofN_nil {n : Nat} : ofN n = [] ↔ n = 0 := ⟨fun h => ofN_inj (h.trans ofN_zero.symm), fun h => by rw [h]; rfl⟩
theorem val_append (l m : List Int) : val (l ++ m) = val l + 4294967296 ^ l.length * val m := by
  induction l with
  | nil => simp [val_nil]
  | cons x l ih => rw [List.cons_append, val_cons, ih, val_cons, List.length_cons, Nat.pow_succ]; grind
theorem val_lt {l : List Int} (h : lim l) : val l < 4294967296 ^ l.length := by
  induction l with
  | nil => simp [val_nil]
  | cons x l ih =>
    obtain ⟨hx, hl⟩ := lim_cons.1 h
    have := ih hl
    rw [val_cons, List.length_cons, Nat.pow_succ]
    omega
theorem val_replicate_zero (k : Nat) : val (List.replicate k 0) = 0 := by
  induction k with
  | zero => rfl
  | succ k ih => rw [List.replicate_succ, val_cons, ih]; rfl
theorem ofN_val {l : List Int} (h : lim l) (hl : ∀ x, l.getLast? = some x → x ≠ 0) : ofN (val l) = l := by
  induction l with
  | nil => rfl
  | cons x l ih =>
    obtain ⟨hx, hl'⟩ := lim_cons.1 h
    have hih : ofN (val l) = l := by
      apply ih hl'
      intro y hy
      cases l with
      | nil => simp at hy
      | cons z l => exact hl y (by rw [List.getLast?_cons_cons]; exact hy)
    have hne : val (x :: l) ≠ 0 := by
      intro e
      rw [val_cons] at e
      have h0 : val l = 0 := by omega
      rw [h0] at hih
      rw [← hih] at hl
      exact hl x (by simp [ofN_zero]) (by omega)
    rw [ofN_pos hne, val_cons, show (x.toNat + 4294967296 * val l) / 4294967296 = val l by omega, hih]
    congr 1
    omega
theorem val_snoc_zero (l : List Int) : val (l ++ [0]) = val l := by rw [val_append]; simp [val_cons, val_nil]
theorem len_ofN_le {n k : Nat} (h : n < 4294967296 ^ k) : (ofN n).length ≤ k := by
  induction k generalizing n with
  | zero => obtain rfl : n = 0 := by simpa using h
            exact Nat.le_refl _
  | succ k ih =>
    by_cases e : n = 0
    · subst e; exact Nat.zero_le _
    · rw [ofN_pos e, List.length_cons]
      have := ih (n := n / 4294967296) (by rw [Nat.pow_succ] at h; omega)
      omega
theorem lt_len_ofN (n : Nat) : n < 4294967296 ^ (ofN n).length := by
  have := val_lt (lim_ofN n); rwa [val_ofN] at this
theorem len_mono {m n : Nat} (h : m ≤ n) : (ofN m).length ≤ (ofN n).length := len_ofN_le (Nat.lt_of_le_of_lt h (lt_len_ofN n))
theorem len_val_le {l : List Int} (h : lim l) : (ofN (val l)).length ≤ l.length := len_ofN_le (val_lt h)
theorem len_mul (m n : Nat) : (ofN (m * n)).length ≤ (ofN m).length + (ofN n).length := by
  apply len_ofN_le
  rw [Nat.pow_add]
  exact Nat.mul_lt_mul'' (lt_len_ofN m) (lt_len_ofN n)
theorem len_add (m n : Nat) : (ofN (m + n)).length ≤ max (ofN m).length (ofN n).length + 1 := by
  apply len_ofN_le
  rw [Nat.pow_succ]
  have h1 := Nat.lt_of_lt_of_le (lt_len_ofN m) (Nat.pow_le_pow_right (n := 4294967296) (by omega) (Nat.le_max_left (ofN m).length (ofN n).length))
  have h2 := Nat.lt_of_lt_of_le (lt_len_ofN n) (Nat.pow_le_pow_right (n := 4294967296) (by omega) (Nat.le_max_right (ofN m).length (ofN n).length))
  omega
theorem val_zeros (l : List Int) (m : List Int) (h : ∀ x ∈ m, x = 0) : val (l ++ m) = val l := by
  have : m = List.replicate m.length 0 := List.eq_replicate_iff.2 ⟨rfl, h⟩
  rw [val_append, this, val_replicate_zero]; omega
theorem take_ofN {l : List Int} (hl : lim l) (n : Nat) (hn : n ≤ l.length) (hz : ∀ j, n ≤ j → j < l.length → l.getD j 0 = 0) (hx : n = 0 ∨ l.getD (n - 1) 0 ≠ 0) : l.take n = ofN (val l) := by
  have e : val l = val (l.take n) := by
    have h := val_zeros (l.take n) (l.drop n) (fun x hx => by
      obtain ⟨j, hj, rfl⟩ := List.getElem_of_mem hx
      rw [List.length_drop] at hj
      have := hz (n + j) (by omega) (by omega)
      rw [List.getD_eq_getElem?_getD, List.getElem?_eq_getElem (by omega)] at this
      simpa using this)
    rwa [List.take_append_drop] at h
  have hlt : lim (l.take n) := fun x hx => hl x (List.mem_of_mem_take hx)
  rw [e, ofN_val hlt]
  intro x h
  rw [List.getLast?_eq_getElem?, List.length_take, Nat.min_eq_left hn] at h
  rcases hx with rfl | hx
  · simp at h
  · by_cases h0 : n = 0
    · subst h0; simp at h
    · rw [List.getElem?_take_of_lt (by omega)] at h
      rw [List.getD_eq_getElem?_getD, h] at hx
      simpa using hx
def fits (l : List Int) : Prop := lim l ∧ l.length ≤ 8796093022208
instance (l : List Int) : Decidable (lim l) := List.decidableBAll _ l
instance (l : List Int) : Decidable (fits l) := inferInstanceAs (Decidable (_ ∧ _))
theorem fits.lt {l : List Int} (h : fits l) : l.length < 35184372088800 := by have := h.2; omega
theorem fits_ofN {n : Nat} (h : (ofN n).length ≤ 8796093022208) : fits (ofN n) := ⟨lim_ofN n, h⟩
end Go.Proofs.Ytaclkccgjpjdjaa.Nt
end
section
/- The nat functions as they are printed tell the numbers that they should: cut, Trim, Cmp, Add, Mul. -/
namespace Go.Proofs.Ytaclkccgjpjdjaa.Nt
open Go.RowKit Go.Proofs.YtaclkccgjpjdjaaW.PrintWords Go.Proofs.YtaclkccgjpjdjaaW.PrintMore Go.Proofs.Ytaclkccgjpjdjaa.N
set_option linter.unusedVariables false
set_option linter.unusedSimpArgs false
theorem w64 {x : Int} (h0 : -9223372036854775808 ≤ x) (h1 : x ≤ 9223372036854775807) : wrap64 x = x := by unfold wrap64; omega
theorem u64 {x : Int} (h0 : 0 ≤ x) (h1 : x < 18446744073709551616) : IntKind.u64.wrap x = x := by
  simp only [IntKind.wrap, IntKind.signed, IntKind.bits]; simp; omega
theorem rd_app (p : List Int) (x : Int) (r : List Int) (i : Int) (h : i = p.length) : rd (p ++ x :: r) i = x := by
  subst h; simp [rd]
theorem set_app (p : List Int) (x y : Int) (r : List Int) (i : Int) (h : i = p.length) : (p ++ x :: r).set i.toNat y = p ++ y :: r := by
  subst h; simp
theorem rd_drop {a : List Int} {i : Nat} {x : Int} {r : List Int} (h : a.drop i = x :: r) : rd a (i : Int) = x ∧ i < a.length ∧ a.drop (i + 1) = r := by
  have hl : i < a.length := by
    apply Nat.lt_of_not_le; intro hc; rw [List.drop_eq_nil_of_le hc] at h; cases h
  rw [List.drop_eq_getElem_cons hl] at h
  injection h with h1 h2
  exact ⟨by simp [rd, hl, h1], hl, h2⟩
theorem lim_drop {a : List Int} (h : lim a) (i : Nat) : lim (a.drop i) := fun x hx => h x (List.mem_of_mem_drop hx)
theorem lim_take {a : List Int} (h : lim a) (i : Nat) : lim (a.take i) := fun x hx => h x (List.mem_of_mem_take hx)
theorem cut_l0 {a : List Int} (ha : lim a) (hl : a.length ≤ 9223372036854775807) : ∀ n : Nat, n ≤ a.length → (∀ j, n ≤ j → j < a.length → a.getD j 0 = 0) → Ev (fun k => nat_cut.l0 k a (n : Int)) (ofN (val a)) := by
  intro n
  induction n with
  | zero =>
    intro _ hz
    refine Ev.step (f := fun _ => some (a.take 0)) (fun k => ?_) ?_
    · simp only [nat_cut.l0]; rw [if_neg (by omega), if_pos (by omega), if_pos (by omega)]; rfl
    · rw [← take_ofN ha 0 (Nat.zero_le _) (fun j _ hj => hz j (Nat.zero_le _) hj) (.inl rfl)]; exact Ev.now _
  | succ n ih =>
    intro hn hz
    have e : wrap64 (((n + 1 : Nat) : Int) - 1) = (n : Int) := by rw [w64 (by omega) (by omega)]; omega
    have er : rd a (n : Int) = a.getD n 0 := by simp [rd]
    by_cases h0 : a.getD n 0 = 0
    · refine Ev.step (f := fun k => nat_cut.l0 k a (n : Int)) (fun k => ?_) (ih (by omega) (fun j hj hj' => ?_))
      · simp only [nat_cut.l0]; rw [if_pos (by omega), e, if_pos (by omega), if_pos (by omega), er, if_pos h0]
      · by_cases ej : j = n
        · subst ej; exact h0
        · exact hz j (by omega) hj'
    · refine Ev.step (f := fun _ => some (a.take (n + 1))) (fun k => ?_) ?_
      · simp only [nat_cut.l0]; rw [if_pos (by omega), e, if_pos (by omega), if_pos (by omega), er, if_neg h0, if_pos (by omega), if_pos (by omega)]; rfl
      · rw [← take_ofN ha (n + 1) hn hz (.inr (by simpa using h0))]; exact Ev.now _
theorem cut_ev {a : List Int} (ha : lim a) (hl : a.length ≤ 9223372036854775807) : Ev (fun k => nat_cut.f k a) (ofN (val a)) :=
  cut_l0 ha hl a.length (Nat.le_refl _) (fun j h h' => by omega)
theorem clone_some {a : List Int} (hl : a.length < 35184372088832) : slices_Clone_uint32_uint32.f a = some a := by
  simp only [slices_Clone_uint32_uint32.f, Option.bind_some, List.length_nil, List.nil_append]; rw [if_pos (by omega)]
theorem len_cut {a : List Int} (ha : lim a) : (ofN (val a)).length ≤ a.length := len_val_le ha
theorem trim_ev {a : List Int} (ha : lim a) (hl : a.length < 35184372088832) : Ev (fun k => nat_Trim.f k a) (ofN (val a)) := by
  unfold nat_Trim.f
  refine Ev.bind (cut_ev ha (by omega)) ?_
  have := len_cut ha
  rw [clone_some (by omega)]; exact Ev.now _
theorem cmp_l0 : ∀ (p q : List Int), lim p → lim q → p.length = q.length → p.length ≤ 9223372036854775807 → ∀ r s : List Int, Ev (fun k => nat_Cmp.l0 k (p ++ r) (q ++ s) ((p.length : Int) - 1)) (if val p < val q then -1 else if val q < val p then 1 else 0) := by
  intro p
  induction hn : p.length generalizing p with
  | zero =>
    intro q _ _ hq _ r s
    obtain rfl : p = [] := List.eq_nil_of_length_eq_zero hn
    obtain rfl : q = [] := List.eq_nil_of_length_eq_zero (by omega)
    refine Ev.step (f := fun _ => some 0) (fun k => ?_) ?_
    · simp only [nat_Cmp.l0]; rw [if_neg (by simp)]
    · simp only [val_nil, Nat.lt_irrefl, if_false]; exact Ev.now _
  | succ n ih =>
    intro q hp hq hpq hl r s
    obtain ⟨p, x, rfl⟩ : ∃ p' x, p = p' ++ [x] := ⟨p.dropLast, p.getLast (by intro e; rw [e] at hn; simp at hn), (List.dropLast_concat_getLast _).symm⟩
    obtain ⟨q, y, rfl⟩ : ∃ q' y, q = q' ++ [y] := ⟨q.dropLast, q.getLast (by intro e; rw [e] at hpq; simp at hpq), (List.dropLast_concat_getLast _).symm⟩
    simp only [List.length_append, List.length_singleton] at hn hpq
    obtain ⟨hp1, hx⟩ := lim_append.1 hp
    obtain ⟨hq1, hy⟩ := lim_append.1 hq
    have hx := hx x (by simp)
    have hy := hy y (by simp)
    have vp := val_lt hp1
    have vq := val_lt hq1
    have eP : val (p ++ [x]) = val p + 4294967296 ^ n * x.toNat := by rw [val_append]; simp [val_cons, val_nil, show p.length = n by omega]
    have eQ : val (q ++ [y]) = val q + 4294967296 ^ n * y.toNat := by rw [val_append]; simp [val_cons, val_nil, show q.length = n by omega]
    rw [show p.length = n by omega] at vp
    rw [show q.length = n by omega] at vq
    have ei : ((n + 1 : Nat) : Int) - 1 = (n : Int) := by omega
    have r1 : rd (p ++ [x] ++ r) (n : Int) = x := by rw [List.append_assoc]; exact rd_app _ _ _ _ (by omega)
    have r2 : rd (q ++ [y] ++ s) (n : Int) = y := by rw [List.append_assoc]; exact rd_app _ _ _ _ (by omega)
    rw [ei]
    by_cases hlt : x < y
    · have hm : 4294967296 ^ n * (x.toNat + 1) ≤ 4294967296 ^ n * y.toNat := Nat.mul_le_mul_left _ (by omega)
      rw [Nat.mul_add] at hm
      rw [if_pos (by omega)]
      refine Ev.step (f := fun _ => some (-1)) (fun k => ?_) (Ev.now _)
      simp only [nat_Cmp.l0]; rw [if_pos (by omega), if_pos (by omega), if_pos (by simp; omega), if_pos (by simp; omega), r1, r2, if_pos hlt]
    · by_cases hgt : x > y
      · have hm : 4294967296 ^ n * (y.toNat + 1) ≤ 4294967296 ^ n * x.toNat := Nat.mul_le_mul_left _ (by omega)
        rw [Nat.mul_add] at hm
        rw [if_neg (by omega), if_pos (by omega)]
        refine Ev.step (f := fun _ => some 1) (fun k => ?_) (Ev.now _)
        simp only [nat_Cmp.l0]; rw [if_pos (by omega), if_pos (by omega), if_pos (by simp; omega), if_pos (by simp; omega), r1, r2, if_neg hlt, if_pos hgt]
      · obtain rfl : x = y := by omega
        have h := ih p (by omega) q hp1 hq1 (by omega) (by omega) ([x] ++ r) ([x] ++ s)
        rw [← List.append_assoc, ← List.append_assoc] at h
        refine Ev.step (f := fun k => nat_Cmp.l0 k (p ++ [x] ++ r) (q ++ [x] ++ s) ((n : Int) - 1)) (fun k => ?_) ?_
        · simp only [nat_Cmp.l0]; rw [if_pos (by omega), if_pos (by omega), if_pos (by simp; omega), if_pos (by simp; omega), r1, r2, if_neg hlt, if_neg hgt, w64 (by omega) (by omega)]
        · rw [eP, eQ]
          simp only [Nat.add_lt_add_iff_right]
          exact h
theorem len_lt_val {m n : Nat} (h : (ofN m).length < (ofN n).length) : m < n := by
  apply Nat.lt_of_not_le; intro hc; have := len_mono hc; omega
theorem cmp_ev {a b : List Int} (ha : lim a) (hb : lim b) (hl : a.length ≤ 9223372036854775807) (hm : b.length ≤ 9223372036854775807) :
    Ev (fun k => nat_Cmp.f k a b) (if val a < val b then -1 else if val b < val a then 1 else 0) := by
  unfold nat_Cmp.f
  refine Ev.bind (cut_ev ha hl) (Ev.bind (cut_ev hb hm) ?_)
  have h1 := len_cut ha
  have h2 := len_cut hb
  by_cases c : (ofN (val a)).length < (ofN (val b)).length
  · have := len_lt_val c
    refine Ev.congr (f := fun _ => some (-1)) (fun k => if_pos (by omega)) ?_
    rw [if_pos this]; exact Ev.now _
  · by_cases d : (ofN (val b)).length < (ofN (val a)).length
    · have := len_lt_val d
      refine Ev.congr (f := fun _ => some 1) (fun k => by rw [if_neg (by omega), if_pos (by omega)]) ?_
      rw [if_neg (by omega), if_pos this]; exact Ev.now _
    · refine Ev.congr (f := fun k => nat_Cmp.l0 k (ofN (val a)) (ofN (val b)) (((ofN (val a)).length : Int) - 1)) (fun k => by rw [if_neg (by omega), if_neg (by omega), w64 (by omega) (by omega)]) ?_
      have h := cmp_l0 (ofN (val a)) (ofN (val b)) (lim_ofN _) (lim_ofN _) (by omega) (by omega) [] []
      simpa only [List.append_nil, val_ofN] using h
def addl : Int → List Int → List Int → List Int
  | c, [], _ => [c % 4294967296]
  | c, x :: a, [] => (c + x) % 4294967296 :: addl ((c + x) / 4294967296) a []
  | c, x :: a, y :: b => (c + x + y) % 4294967296 :: addl ((c + x + y) / 4294967296) a b
theorem addl_val : ∀ (a b : List Int) (c : Int), lim a → lim b → 0 ≤ c → c ≤ 1 → b.length ≤ a.length → lim (addl c a b) ∧ (val (addl c a b) : Int) = c + val a + val b ∧ (addl c a b).length = a.length + 1
  | [], [], c, _, _, h0, h1, _ => by
    refine ⟨?_, ?_, rfl⟩
    · intro x hx; simp only [addl, List.mem_singleton] at hx; subst hx; omega
    · simp only [addl, val_cons, val_nil]; omega
  | [], _ :: _, _, _, _, _, _, h => by simp at h
  | x :: a, [], c, ha, hb, h0, h1, hl => by
    obtain ⟨hx, ha'⟩ := lim_cons.1 ha
    obtain ⟨i1, i2, i3⟩ := addl_val a [] ((c + x) / 4294967296) ha' hb (by omega) (by omega) (by simp)
    refine ⟨?_, ?_, ?_⟩
    · rw [addl, lim_cons]; exact ⟨by omega, i1⟩
    · rw [addl, val_cons, val_cons]; rw [val_nil] at i2 ⊢; omega
    · rw [addl, List.length_cons, i3, List.length_cons]
  | x :: a, y :: b, c, ha, hb, h0, h1, hl => by
    obtain ⟨hx, ha'⟩ := lim_cons.1 ha
    obtain ⟨hy, hb'⟩ := lim_cons.1 hb
    obtain ⟨i1, i2, i3⟩ := addl_val a b ((c + x + y) / 4294967296) ha' hb' (by omega) (by omega) (by simpa using hl)
    refine ⟨?_, ?_, ?_⟩
    · rw [addl, lim_cons]; exact ⟨by omega, i1⟩
    · rw [addl, val_cons, val_cons, val_cons]; omega
    · rw [addl, List.length_cons, i3, List.length_cons]
theorem add_l0 {a b : List Int} (ha : lim a) (hb : lim b) (hl : a.length < 35184372088800) : ∀ (r : List Int) (i : Nat) (out : List Int) (c : Int), a.drop i = r → i + r.length = a.length → 0 ≤ c → c ≤ 1 → lim out → out.length = i → b.length ≤ a.length →
    Ev (fun k => nat_Add.l0 k b out c a (a.length : Int) (i : Int)) (ofN (val (out ++ addl c r (b.drop i)))) := by
  intro r
  induction r with
  | nil =>
    intro i out c hr hi h0 h1 ho hol hba
    simp only [List.length_nil] at hi
    have hc := cut_ev (a := out ++ [c % 4294967296]) (lim_append.2 ⟨ho, by intro x hx; simp at hx; subst hx; omega⟩) (by simp; omega)
    refine Ev.step (f := fun k => nat_cut.f k (out ++ [c % 4294967296])) (fun k => ?_) ?_
    · simp only [nat_Add.l0]; rw [if_neg (by omega), if_pos (by omega)]; simp
    · simpa only [addl] using hc
  | cons x r ih =>
    intro i out c hr hi h0 h1 ho hol hba
    obtain ⟨e1, e2, e3⟩ := rd_drop hr
    have hx : 0 ≤ x ∧ x < 4294967296 := by have := lim_drop ha i; rw [hr] at this; exact (lim_cons.1 this).1
    simp only [List.length_cons] at hi
    cases hbd : b.drop i with
    | nil =>
      have hbl : b.length ≤ i := by have := congrArg List.length hbd; rw [List.length_drop] at this; simpa [Nat.sub_eq_zero_iff_le] using this
      have hbd' : b.drop (i + 1) = [] := List.drop_eq_nil_of_le (by omega)
      have h := ih (i + 1) (out ++ [(c + x) % 4294967296]) ((c + x) / 4294967296) e3 (by omega) (by omega) (by omega) (lim_append.2 ⟨ho, by intro z hz; simp at hz; subst hz; omega⟩) (by simp; omega) hba
      rw [hbd', List.append_assoc] at h
      refine Ev.step (f := fun k => nat_Add.l0 k b (out ++ [(c + x) % 4294967296]) ((c + x) / 4294967296) a (a.length : Int) ((i + 1 : Nat) : Int)) (fun k => ?_) (by simpa only [addl, List.singleton_append] using h)
      simp only [nat_Add.l0]
      rw [if_pos (by omega), if_pos (by omega), if_pos (by omega), if_neg (by omega), if_pos (by omega), e1, u64 hx.1 (by omega), u64 (by omega) (by omega), w64 (by omega) (by omega)]
      rfl
    | cons y bs =>
      obtain ⟨f1, f2, f3⟩ := rd_drop hbd
      have hy : 0 ≤ y ∧ y < 4294967296 := by have := lim_drop hb i; rw [hbd] at this; exact (lim_cons.1 this).1
      have h := ih (i + 1) (out ++ [(c + x + y) % 4294967296]) ((c + x + y) / 4294967296) e3 (by omega) (by omega) (by omega) (lim_append.2 ⟨ho, by intro z hz; simp at hz; subst hz; omega⟩) (by simp; omega) hba
      rw [f3, List.append_assoc] at h
      refine Ev.step (f := fun k => nat_Add.l0 k b (out ++ [(c + x + y) % 4294967296]) ((c + x + y) / 4294967296) a (a.length : Int) ((i + 1 : Nat) : Int)) (fun k => ?_) (by simpa only [addl, List.singleton_append] using h)
      simp only [nat_Add.l0]
      rw [if_pos (by omega), if_pos (by omega), if_pos (by omega), if_pos (by omega), if_pos (by omega), e1, f1, u64 hx.1 (by omega), u64 hy.1 (by omega), u64 (x := c + x) (by omega) (by omega), u64 (by omega) (by omega), w64 (by omega) (by omega)]
      rfl
theorem add_g {a b : List Int} (ha : lim a) (hb : lim b) (hl : a.length < 35184372088800) (hba : b.length ≤ a.length) : Ev (fun k => nat_Add.g k a b) (ofN (val a + val b)) := by
  have h := add_l0 ha hb hl a 0 [] 0 rfl (by simp) (by omega) (by omega) lim_nil rfl hba
  obtain ⟨h1, h2, h3⟩ := addl_val a b 0 ha hb (by omega) (by omega) hba
  simp only [List.nil_append, List.drop_zero] at h
  rw [show val (addl 0 a b) = val a + val b by omega] at h
  unfold nat_Add.g
  refine Ev.congr (fun k => ?_) h
  rw [if_pos (by omega)]; rfl
theorem add_ev {a b : List Int} (ha : lim a) (hb : lim b) (hl : a.length < 35184372088800) (hm : b.length < 35184372088800) : Ev (fun k => nat_Add.f k a b) (ofN (val a + val b)) := by
  unfold nat_Add.f
  by_cases c : a.length < b.length
  · refine Ev.congr (fun k => if_pos c) ?_
    rw [Nat.add_comm]; exact add_g hb ha hm (by omega)
  · exact Ev.congr (fun k => if_neg c) (add_g ha hb hl (by omega))
end Go.Proofs.Ytaclkccgjpjdjaa.Nt
end
section
/- The nat functions as they are printed tell the numbers that they should: Mul, small, left, right. -/
namespace Go.Proofs.Ytaclkccgjpjdjaa.Nt
open Go.RowKit Go.Proofs.YtaclkccgjpjdjaaW.PrintWords Go.Proofs.YtaclkccgjpjdjaaW.PrintMore Go.Proofs.Ytaclkccgjpjdjaa.N
set_option linter.unusedVariables false
set_option linter.unusedSimpArgs false
def macr : Int → Int → List Int → List Int → List Int
  | c, x, r0 :: r, y :: b => (c + (x * y + r0)) % 4294967296 :: macr ((c + (x * y + r0)) / 4294967296) x r b
  | c, _, _, _ => [c % 4294967296]
theorem mul_lim {x y : Int} (hx : 0 ≤ x ∧ x < 4294967296) (hy : 0 ≤ y ∧ y < 4294967296) : 0 ≤ x * y ∧ x * y ≤ 18446744065119617025 := by
  refine ⟨Int.mul_nonneg hx.1 hy.1, ?_⟩
  have := Int.mul_le_mul (a := x) (b := y) (c := 4294967295) (d := 4294967295) (by omega) (by omega) hy.1 (by omega)
  omega
theorem macr_val : ∀ (r b : List Int) (c x : Int), lim r → lim b → 0 ≤ x ∧ x < 4294967296 → 0 ≤ c ∧ c < 4294967296 → r.length = b.length →
    lim (macr c x r b) ∧ (val (macr c x r b) : Int) = c + x * val b + val r ∧ (macr c x r b).length = b.length + 1
  | [], [], c, x, _, _, hx, hc, _ => by
    refine ⟨by intro z hz; simp only [macr, List.mem_singleton] at hz; subst hz; omega, ?_, rfl⟩
    simp only [macr, val_cons, val_nil]; omega
  | [], _ :: _, _, _, _, _, _, _, h => by simp at h
  | _ :: _, [], _, _, _, _, _, _, h => by simp at h
  | r0 :: r, y :: b, c, x, hr, hb, hx, hc, hl => by
    obtain ⟨h0, hr'⟩ := lim_cons.1 hr
    obtain ⟨hy, hb'⟩ := lim_cons.1 hb
    have hm := mul_lim hx hy
    obtain ⟨i1, i2, i3⟩ := macr_val r b ((c + (x * y + r0)) / 4294967296) x hr' hb' hx (by omega) (by simpa using hl)
    refine ⟨?_, ?_, ?_⟩
    · rw [macr, lim_cons]; exact ⟨by omega, i1⟩
    · rw [macr, val_cons, val_cons, val_cons]
      have e : x * (((y.toNat + 4294967296 * val b : Nat)) : Int) = x * y + 4294967296 * (x * (val b : Int)) := by
        rw [show (((y.toNat + 4294967296 * val b : Nat)) : Int) = y + 4294967296 * (val b : Int) by omega, Int.mul_add, Int.mul_left_comm]
      rw [e]; omega
    · rw [macr, List.length_cons, i3, List.length_cons]
def mull : List Int → List Int → List Int → List Int
  | r, [], _ => r
  | r, x :: a, b => match macr 0 x r b with
    | [] => []
    | h :: t => h :: mull t a b
theorem mull_val : ∀ (a r b : List Int), lim a → lim r → lim b → r.length = b.length → lim (mull r a b) ∧ val (mull r a b) = val r + val a * val b
  | [], r, b, _, hr, _, _ => by simp only [mull, val_nil]; exact ⟨hr, by omega⟩
  | x :: a, r, b, ha, hr, hb, hl => by
    obtain ⟨hx, ha'⟩ := lim_cons.1 ha
    obtain ⟨m1, m2, m3⟩ := macr_val r b 0 x hr hb hx (by omega) hl
    simp only [mull]
    split
    · rename_i e; rw [e] at m3; simp at m3
    · rename_i h t e
      rw [e] at m1 m2 m3
      obtain ⟨hh, ht⟩ := lim_cons.1 m1
      obtain ⟨i1, i2⟩ := mull_val a t b ha' ht hb (by simpa using m3)
      refine ⟨lim_cons.2 ⟨hh, i1⟩, ?_⟩
      rw [val_cons, i2, val_cons]
      rw [val_cons] at m2
      have e2 : x * (val b : Int) = ((x.toNat * val b : Nat) : Int) := by rw [Int.natCast_mul]; congr 1; omega
      rw [e2] at m2
      rw [Nat.add_mul, Nat.mul_assoc]
      omega
theorem mul_l1 {b a : List Int} (hb : lim b) (la : Int) (i : Nat) (x : Int) (hx : 0 ≤ x ∧ x < 4294967296) (R : List Int) (hbig : i + b.length < 1000000000000000000) :
    ∀ (s : List Int) (j : Nat) (p r z : List Int) (c : Int), b.drop j = s → j + s.length = b.length → p.length = i + j → r.length = s.length → lim r → 0 ≤ c ∧ c < 4294967296 →
    Ev (fun k => nat_Mul.l0 k b (p ++ (macr c x r s ++ z)) a la ((i : Int) + 1)) R →
    Ev (fun k => nat_Mul.l1 k b (p ++ (r ++ 0 :: z)) (i : Int) x c a la (i : Int) b (b.length : Int) (j : Int)) R := by
  intro s
  induction s with
  | nil =>
    intro j p r z c hs hj hp hr hlr hc h
    obtain rfl : r = [] := List.eq_nil_of_length_eq_zero (by simpa using hr)
    simp only [List.length_nil] at hj
    refine Ev.step (f := fun k => nat_Mul.l0 k b (p ++ (macr c x [] [] ++ z)) a la ((i : Int) + 1)) (fun k => ?_) h
    simp only [nat_Mul.l1]
    rw [if_neg (by omega), w64 (x := (i : Int) + b.length) (by omega) (by omega), if_pos (by omega), if_pos (by simp; omega), List.nil_append, set_app _ _ _ _ _ (by omega), w64 (by omega) (by omega)]
    rfl
  | cons y s ih =>
    intro j p r z c hs hj hp hr hlr hc h
    cases r with
    | nil => simp at hr
    | cons r0 r =>
      obtain ⟨e1, e2, e3⟩ := rd_drop hs
      have hy : 0 ≤ y ∧ y < 4294967296 := by have := lim_drop hb j; rw [hs] at this; exact (lim_cons.1 this).1
      obtain ⟨h0, hlr'⟩ := lim_cons.1 hlr
      have hm := mul_lim hx hy
      simp only [List.length_cons] at hj hr
      have h2 := ih (j + 1) (p ++ [(c + (x * y + r0)) % 4294967296]) r z ((c + (x * y + r0)) / 4294967296) e3 (by omega) (by simp; omega) (by omega) hlr' (by omega) (by simpa only [macr, List.append_assoc, List.singleton_append, List.cons_append, List.nil_append] using h)
      refine Ev.step (f := fun k => nat_Mul.l1 k b ((p ++ [(c + (x * y + r0)) % 4294967296]) ++ (r ++ 0 :: z)) (i : Int) x ((c + (x * y + r0)) / 4294967296) a la (i : Int) b (b.length : Int) ((j + 1 : Nat) : Int)) (fun k => ?_) h2
      simp only [nat_Mul.l1]
      rw [if_pos (by omega), if_pos (by omega), if_pos (by omega), w64 (x := (i : Int) + j) (by omega) (by omega), if_pos (by omega), if_pos (by simp; omega), e1, List.cons_append, rd_app _ _ _ _ (by omega), set_app _ _ _ _ _ (by omega), u64 hx.1 (by omega), u64 hy.1 (by omega), u64 h0.1 (by omega), u64 hm.1 (by omega), u64 (x := x * y + r0) (by omega) (by omega), u64 (by omega) (by omega), w64 (by omega) (by omega)]
      simp
theorem mul_l0 {b a : List Int} (hb : lim b) (ha : lim a) (hbig : a.length + b.length < 100000000000000000) : ∀ (s : List Int) (i : Nat) (p r : List Int), a.drop i = s → i + s.length = a.length → p.length = i → lim p → lim r → r.length = b.length →
    Ev (fun k => nat_Mul.l0 k b (p ++ (r ++ List.replicate s.length 0)) a (a.length : Int) (i : Int)) (ofN (val (p ++ mull r s b))) := by
  intro s
  induction s with
  | nil =>
    intro i p r hs hi hp hlp hlr hr
    simp only [List.length_nil] at hi
    refine Ev.step (f := fun k => nat_cut.f k (p ++ r)) (fun k => ?_) ?_
    · simp only [nat_Mul.l0]; rw [if_neg (by omega)]; simp
    · exact cut_ev (lim_append.2 ⟨hlp, hlr⟩) (by simp; omega)
  | cons x s ih =>
    intro i p r hs hi hp hlp hlr hr
    obtain ⟨e1, e2, e3⟩ := rd_drop hs
    have hx : 0 ≤ x ∧ x < 4294967296 := by have := lim_drop ha i; rw [hs] at this; exact (lim_cons.1 this).1
    simp only [List.length_cons] at hi
    obtain ⟨m1, m2, m3⟩ := macr_val r b 0 x hlr hb hx (by omega) hr
    cases hm : macr 0 x r b with
    | nil => rw [hm] at m3; simp at m3
    | cons h t =>
      rw [hm] at m1 m3
      obtain ⟨hh, ht⟩ := lim_cons.1 m1
      have h1 := ih (i + 1) (p ++ [h]) t e3 (by omega) (by simp; omega) (lim_append.2 ⟨hlp, by intro z hz; simp at hz; subst hz; exact hh⟩) ht (by simpa using m3)
      have h2 := mul_l1 (a := a) hb (a.length : Int) i x hx (ofN (val (p ++ mull r (x :: s) b))) (by omega) b 0 p r (List.replicate s.length 0) 0 rfl (by omega) (by omega) hr hlr (by omega) (by
        simp only [mull]; rw [hm]
        simpa using h1)
      refine Ev.step (f := fun k => nat_Mul.l1 k b (p ++ (r ++ 0 :: List.replicate s.length 0)) (i : Int) x 0 a (a.length : Int) (i : Int) b (b.length : Int) ((0 : Nat) : Int)) (fun k => ?_) h2
      simp only [nat_Mul.l0]
      rw [if_pos (by omega), if_pos (by omega), if_pos (by omega), e1]
      rfl
theorem mul_ev {a b : List Int} (ha : lim a) (hb : lim b) (hl : a.length + b.length < 35184372088800) : Ev (fun k => nat_Mul.f k a b) (ofN (val a * val b)) := by
  have h := mul_l0 hb ha (by omega) a 0 [] (List.replicate b.length 0) rfl (by simp) rfl lim_nil (by intro z hz; rw [List.mem_replicate] at hz; obtain ⟨_, rfl⟩ := hz; omega) (by simp)
  obtain ⟨_, m2⟩ := mull_val a (List.replicate b.length 0) b ha (by intro z hz; rw [List.mem_replicate] at hz; obtain ⟨_, rfl⟩ := hz; omega) hb (by simp)
  rw [val_replicate_zero, Nat.zero_add] at m2
  simp only [List.nil_append] at h
  rw [m2] at h
  unfold nat_Mul.f
  refine Ev.congr (fun k => ?_) h
  rw [w64 (by omega) (by omega), if_pos (by omega), if_pos (by omega)]
  rw [List.replicate_append_replicate, show ((a.length : Int) + (b.length : Int)).toNat = b.length + a.length by omega]
  rfl
theorem or64 {a b : Int} (k : Nat) (ha : 0 ≤ a) (hb : 0 ≤ b) (hbk : b < 2 ^ k) (h : a * 2 ^ k + b < 18446744073709551616) : Go.bits .or .u64 (a * 2 ^ k) b = a * 2 ^ k + b := by
  have hp : (0 : Int) < 2 ^ k := Int.pow_pos (by omega)
  have h1 : 0 ≤ a * 2 ^ k := Int.mul_nonneg ha (by omega)
  rw [u64_or _ _ h1 (by omega) hb (by omega)]
  obtain ⟨m, rfl⟩ := Int.eq_ofNat_of_zero_le ha
  obtain ⟨n, rfl⟩ := Int.eq_ofNat_of_zero_le hb
  have e : ((m : Int) * 2 ^ k) = ((2 ^ k * m : Nat) : Int) := by rw [Int.natCast_mul, Int.mul_comm]; simp
  have hn : n < 2 ^ k := by
    have : ((2 : Int) ^ k) = ((2 ^ k : Nat) : Int) := by simp
    omega
  rw [e, Int.toNat_natCast, Int.toNat_natCast, ← Nat.two_pow_add_eq_or_of_lt hn]
  omega
theorem or64' {a b : Int} (ha : 0 ≤ a) (ha2 : a < 4294967296) (hb : 0 ≤ b) (hbk : b < 4294967296) : Go.bits .or .u64 (a * 4294967296) b = a * 4294967296 + b := by
  have h := or64 (a := a) (b := b) 32 ha hb (by simpa using hbk) (by rw [show (2 : Int) ^ 32 = 4294967296 by decide]; omega)
  rwa [show (2 : Int) ^ 32 = 4294967296 by decide] at h
def smr (b : Int) : Int → List Int → List Int × Int
  | rest, [] => ([], rest)
  | rest, x :: ps => ((smr b ((rest * 4294967296 + x) % b) ps).1 ++ [(rest * 4294967296 + x) / b], (smr b ((rest * 4294967296 + x) % b) ps).2)
theorem smr_div {rest x b : Int} (h0 : 0 ≤ rest) (hr : rest < b) (hb : b < 4294967296) (hx : 0 ≤ x ∧ x < 4294967296) : 0 ≤ (rest * 4294967296 + x) / b ∧ (rest * 4294967296 + x) / b < 4294967296 ∧ 0 ≤ (rest * 4294967296 + x) % b ∧ (rest * 4294967296 + x) % b < b := by
  have hb0 : 0 < b := by omega
  refine ⟨Int.ediv_nonneg (by omega) (by omega), ?_, Int.emod_nonneg _ (by omega), Int.emod_lt_of_pos _ hb0⟩
  apply Int.ediv_lt_of_lt_mul hb0
  omega
theorem smr_val {b : Int} (hb : b < 4294967296) : ∀ (ps : List Int) (rest : Int), lim ps → 0 ≤ rest → rest < b →
    lim (smr b rest ps).1 ∧ (smr b rest ps).1.length = ps.length ∧ 0 ≤ (smr b rest ps).2 ∧ (smr b rest ps).2 < b ∧ (val (smr b rest ps).1 : Int) * b + (smr b rest ps).2 = rest * 4294967296 ^ ps.length + val ps.reverse
  | [], rest, _, h0, h1 => ⟨lim_nil, rfl, h0, h1, by simp [smr, val_nil]⟩
  | x :: ps, rest, hp, h0, h1 => by
    obtain ⟨hx, hp'⟩ := lim_cons.1 hp
    obtain ⟨d1, d2, d3, d4⟩ := smr_div h0 h1 hb hx
    obtain ⟨i1, i2, i3, i4, i5⟩ := smr_val hb ps ((rest * 4294967296 + x) % b) hp' d3 d4
    simp only [smr]
    refine ⟨lim_append.2 ⟨i1, by intro z hz; simp at hz; subst hz; omega⟩, by simp [i2], i3, i4, ?_⟩
    rw [val_append, i2, List.reverse_cons, val_append, List.length_reverse, List.length_cons]
    have e := Int.mul_ediv_add_emod (rest * 4294967296 + x) b
    generalize (rest * 4294967296 + x) / b = q at *
    generalize (rest * 4294967296 + x) % b = m at *
    simp only [val_cons, val_nil, Nat.mul_zero, Nat.add_zero, Int.natCast_add, Int.natCast_mul, Int.natCast_pow, Int.toNat_of_nonneg d1, Int.toNat_of_nonneg hx.1]
    have ec : ((4294967296 : Nat) : Int) = 4294967296 := rfl
    rw [ec, Int.pow_succ]
    generalize (4294967296 : Int) ^ ps.length = P at *
    generalize (val (smr b m ps).1 : Int) = Q at *
    generalize (smr b m ps).2 = R at *
    generalize (val ps.reverse : Int) = V at *
    clear i1 i2 i3 i4 hp hp' ec d1 d2 d3 d4 h0 h1 hx hb
    grind
theorem small_l0 {a : List Int} {b : Int} (ha : lim a) (hb0 : 0 < b) (hb : b < 4294967296) (hl : a.length < 35184372088800) : ∀ (ps s d : List Int) (rest : Int), a = ps.reverse ++ s → lim d → ps.length + d.length = a.length → 0 ≤ rest → rest < b →
    Ev (fun k => nat_small.l0 k a b (List.replicate ps.length 0 ++ d) rest ((ps.length : Int) - 1)) (ofN (val ((smr b rest ps).1 ++ d)), (smr b rest ps).2) := by
  intro ps
  induction ps with
  | nil =>
    intro s d rest has hd hdl h0 h1
    simp only [List.length_nil] at hdl
    have hc := cut_ev (a := d) hd (by omega)
    refine Ev.step (f := fun k => (nat_cut.f k d).bind fun t => some (t, rest)) (fun k => ?_) (Ev.bind hc (Ev.now _))
    simp only [nat_small.l0]; rw [if_neg (by simp), show rest % 4294967296 = rest by omega]; rfl
  | cons x ps ih =>
    intro s d rest has hd hdl h0 h1
    have hlp : lim (x :: ps) := by
      have := (lim_append.1 (has ▸ ha)).1
      intro z hz; exact this z (by rw [List.mem_reverse]; exact hz)
    obtain ⟨hx, hlps⟩ := lim_cons.1 hlp
    obtain ⟨d1, d2, d3, d4⟩ := smr_div h0 h1 hb hx
    simp only [List.length_cons] at hdl
    have h := ih ([x] ++ s) (((rest * 4294967296 + x) / b) :: d) ((rest * 4294967296 + x) % b) (by rw [has]; simp) (lim_cons.2 ⟨⟨d1, d2⟩, hd⟩) (by simp; omega) d3 d4
    have er : rd a (ps.length : Int) = x := by rw [has, List.reverse_cons, List.append_assoc]; exact rd_app _ _ _ _ (by simp)
    refine Ev.step (f := fun k => nat_small.l0 k a b (List.replicate ps.length 0 ++ ((rest * 4294967296 + x) / b) :: d) ((rest * 4294967296 + x) % b) ((ps.length : Int) - 1)) (fun k => ?_) (by simpa only [smr, List.append_assoc, List.singleton_append] using h)
    simp only [nat_small.l0, List.length_cons]
    have ei : ((ps.length + 1 : Nat) : Int) - 1 = (ps.length : Int) := by omega
    rw [ei, if_pos (by omega), if_pos (by omega), if_pos (by omega), u64 (x := b) (by omega) (by omega), if_neg (by omega), if_pos (by simp; omega), er, u64 (x := rest * 4294967296) (by omega) (by omega), u64 (x := x) (by omega) (by omega), or64' h0 (by omega) hx.1 hx.2,
      Int.tdiv_eq_ediv_of_nonneg (by omega), Int.tmod_eq_emod_of_nonneg (by omega), u64 d1 (by omega), show (rest * 4294967296 + x) / b % 4294967296 = (rest * 4294967296 + x) / b by omega, w64 (by omega) (by omega)]
    rw [show List.replicate (ps.length + 1) (0 : Int) ++ d = List.replicate ps.length 0 ++ 0 :: d by rw [List.replicate_succ']; simp, set_app _ _ _ _ _ (by simp)]
theorem small_ev {a : List Int} {b : Int} (ha : lim a) (hb0 : 0 < b) (hb : b < 4294967296) (hl : a.length < 35184372088800) : Ev (fun k => nat_small.f k a b) (ofN (val a / b.toNat), ((val a % b.toNat : Nat) : Int)) := by
  have hr : lim a.reverse := fun z hz => ha z (by simpa using hz)
  have h := small_l0 ha hb0 hb hl a.reverse [] [] 0 (by simp) lim_nil (by simp) (by omega) hb0
  obtain ⟨i1, i2, i3, i4, i5⟩ := smr_val hb a.reverse 0 hr (by omega) hb0
  simp only [List.append_nil, List.length_reverse] at h
  rw [List.reverse_reverse, Int.zero_mul, Int.zero_add] at i5
  generalize (smr b 0 a.reverse).1 = Q at *
  generalize (smr b 0 a.reverse).2 = m at *
  obtain ⟨n, rfl⟩ := Int.eq_ofNat_of_zero_le (show 0 ≤ b by omega)
  obtain ⟨r, rfl⟩ := Int.eq_ofNat_of_zero_le i3
  have e : val Q * n + r = val a := by
    have : ((val Q * n + r : Nat) : Int) = (val a : Int) := by rw [Int.natCast_add, Int.natCast_mul]; exact i5
    omega
  have hq : val a / n = val Q := by rw [← e, Nat.mul_comm, Nat.mul_add_div (by omega), Nat.div_eq_of_lt (by omega)]; omega
  have hm : val a % n = r := by rw [← e, Nat.mul_comm, Nat.mul_add_mod, Nat.mod_eq_of_lt (by omega)]
  rw [Int.toNat_natCast, hq, hm]
  unfold nat_small.f
  refine Ev.congr (fun k => ?_) h
  rw [if_pos (by omega), if_pos (by omega), w64 (by omega) (by omega), Int.toNat_natCast]
def leftl (D : Int) : Int → List Int → List Int
  | c, [] => [c % 4294967296]
  | c, x :: a => (x * D + c) % 4294967296 :: leftl D ((x * D + c) / 4294967296) a
theorem leftl_val {D : Int} (hD : 0 < D) (hD2 : D ≤ 4294967296) : ∀ (a : List Int) (c : Int), lim a → 0 ≤ c → c < D → lim (leftl D c a) ∧ (val (leftl D c a) : Int) = c + val a * D ∧ (leftl D c a).length = a.length + 1
  | [], c, _, h0, h1 => by
    refine ⟨by intro z hz; simp only [leftl, List.mem_singleton] at hz; subst hz; omega, ?_, rfl⟩
    simp only [leftl, val_cons, val_nil]; omega
  | x :: a, c, ha, h0, h1 => by
    obtain ⟨hx, ha'⟩ := lim_cons.1 ha
    have p0 : 0 ≤ x * D := Int.mul_nonneg hx.1 (by omega)
    have p1 : x * D ≤ 4294967295 * D := Int.mul_le_mul_of_nonneg_right (by omega) (by omega)
    obtain ⟨i1, i2, i3⟩ := leftl_val hD hD2 a ((x * D + c) / 4294967296) ha' (by omega) (by omega)
    refine ⟨?_, ?_, ?_⟩
    · rw [leftl, lim_cons]; exact ⟨by omega, i1⟩
    · rw [leftl, val_cons, val_cons]
      have e : (((x.toNat + 4294967296 * val a : Nat)) : Int) * D = x * D + 4294967296 * (val a * D) := by
        rw [show (((x.toNat + 4294967296 * val a : Nat)) : Int) = x + 4294967296 * (val a : Int) by omega, Int.add_mul, Int.mul_assoc]
      rw [e]; omega
    · rw [leftl, List.length_cons, i3, List.length_cons]
theorem pow31 {by_ : Int} (h0 : 0 ≤ by_) (h1 : by_ ≤ 31) : (0 : Int) < 2 ^ by_.toNat ∧ (2 : Int) ^ by_.toNat ≤ 2147483648 := by
  refine ⟨Int.pow_pos (by omega), ?_⟩
  have : (2 : Nat) ^ by_.toNat ≤ 2 ^ 31 := Nat.pow_le_pow_right (by omega) (by omega)
  have e : ((2 : Int) ^ by_.toNat) = ((2 ^ by_.toNat : Nat) : Int) := by simp
  omega
theorem left_l0 {a : List Int} {by_ : Int} (ha : lim a) (h0 : 0 ≤ by_) (h1 : by_ ≤ 31) (hl : a.length < 35184372088800) : ∀ (s : List Int) (i : Nat) (out : List Int) (c : Int), a.drop i = s → i + s.length = a.length → out.length = i → 0 ≤ c → c < 2 ^ by_.toNat →
    Ev (fun k => nat_left.l0 k by_ out c a (a.length : Int) (i : Int)) (out ++ leftl (2 ^ by_.toNat) c s) := by
  obtain ⟨hD, hD2⟩ := pow31 h0 h1
  intro s
  induction s with
  | nil =>
    intro i out c hs hi ho hc0 hc1
    simp only [List.length_nil] at hi
    refine Ev.step (f := fun _ => some (out ++ [c % 4294967296])) (fun k => ?_) (Ev.now _)
    simp only [nat_left.l0]; rw [if_neg (by omega), if_pos (by omega)]
  | cons x s ih =>
    intro i out c hs hi ho hc0 hc1
    obtain ⟨e1, e2, e3⟩ := rd_drop hs
    have hx : 0 ≤ x ∧ x < 4294967296 := by have := lim_drop ha i; rw [hs] at this; exact (lim_cons.1 this).1
    simp only [List.length_cons] at hi
    have p0 : 0 ≤ x * 2 ^ by_.toNat := Int.mul_nonneg hx.1 (by omega)
    have p1 : x * 2 ^ by_.toNat ≤ 4294967295 * 2 ^ by_.toNat := Int.mul_le_mul_of_nonneg_right (by omega) (by omega)
    have h := ih (i + 1) (out ++ [(x * 2 ^ by_.toNat + c) % 4294967296]) ((x * 2 ^ by_.toNat + c) / 4294967296) e3 (by omega) (by simp; omega) (by omega) (by omega)
    refine Ev.step (f := fun k => nat_left.l0 k by_ (out ++ [(x * 2 ^ by_.toNat + c) % 4294967296]) ((x * 2 ^ by_.toNat + c) / 4294967296) a (a.length : Int) ((i + 1 : Nat) : Int)) (fun k => ?_) (by simpa only [leftl, List.append_assoc, List.singleton_append] using h)
    have es : shl .u64 (IntKind.u64.wrap x) by_ = x * 2 ^ by_.toNat := by
      unfold shl
      rw [u64 hx.1 (by omega), show min by_.toNat IntKind.u64.bits = by_.toNat from Nat.min_eq_left (by show by_.toNat ≤ 64; omega), u64 p0 (by omega)]
    have eo : Go.bits .or .u64 c (x * 2 ^ by_.toNat) = x * 2 ^ by_.toNat + c := by
      rw [← or64 by_.toNat hx.1 hc0 hc1 (by omega), u64_or _ _ hc0 (by omega) p0 (by omega), u64_or _ _ p0 (by omega) hc0 (by omega), Nat.or_comm]
    simp only [nat_left.l0]
    rw [if_pos (by omega), if_pos (by omega), if_pos (by omega), if_pos (by omega), if_pos (by omega), e1, es, eo, w64 (by omega) (by omega)]
    rfl
theorem left_ev {a : List Int} {by_ : Int} (ha : lim a) (h0 : 0 ≤ by_) (h1 : by_ ≤ 31) (hl : a.length < 35184372088800) : Ev (fun k => nat_left.f k a by_) (leftl (2 ^ by_.toNat) 0 a) := by
  have h := left_l0 ha h0 h1 hl a 0 [] 0 rfl (by simp) rfl (by omega) (pow31 h0 h1).1
  unfold nat_left.f
  refine Ev.congr (fun k => ?_) h
  rw [if_pos (by omega)]; rfl
def rightl (D : Int) : List Int → List Int
  | [] => []
  | [x] => [x / D % 4294967296]
  | x :: y :: a => (y * 4294967296 + x) / D % 4294967296 :: rightl D (y :: a)
theorem right_step {x y va D M : Nat} (hM : D * M = 4294967296) (hx : x < 4294967296) : (x + 4294967296 * (y + 4294967296 * va)) / D = (y * 4294967296 + x) / D % 4294967296 + 4294967296 * ((y + 4294967296 * va) / D) := by
  have hD : 0 < D := Nat.pos_of_ne_zero (fun e => by subst e; simp at hM)
  have hM0 : 0 < M := Nat.pos_of_ne_zero (fun e => by subst e; simp at hM)
  have g : ∀ u v : Nat, (u + 4294967296 * v) / D = u / D + M * v := fun u v => by
    rw [← hM, Nat.mul_assoc, Nat.add_mul_div_left _ _ hD]
  rw [g, g, Nat.add_comm (y * 4294967296) x, Nat.mul_comm y, g]
  have hxd : x / D < M := by rw [Nat.div_lt_iff_lt_mul hD]; rw [Nat.mul_comm]; omega
  have h1 : (x / D + M * y) / 4294967296 = y / D := by
    rw [← hM, Nat.mul_comm D M, ← Nat.div_div_eq_div_mul, Nat.add_mul_div_left _ _ hM0, Nat.div_eq_of_lt hxd, Nat.zero_add]
  have h2 := Nat.div_add_mod (x / D + M * y) 4294967296
  rw [h1] at h2
  have h3 : M * (y + 4294967296 * va) = M * y + 4294967296 * (M * va) := by rw [Nat.mul_add, Nat.mul_left_comm]
  rw [h3, Nat.mul_add]
  omega
theorem rightl_val {D M : Nat} (hM : D * M = 4294967296) : ∀ (a : List Int), lim a → lim (rightl D a) ∧ val (rightl D a) = val a / D ∧ (rightl D a).length = a.length
  | [], _ => by simp [rightl, val_nil, lim_nil]
  | [x], ha => by
    obtain ⟨hx, _⟩ := lim_cons.1 ha
    refine ⟨by intro z hz; simp only [rightl, List.mem_singleton] at hz; subst hz; omega, ?_, rfl⟩
    simp only [rightl, val_cons, val_nil]
    obtain ⟨n, rfl⟩ := Int.eq_ofNat_of_zero_le hx.1
    have : n / D ≤ n := Nat.div_le_self _ _
    simp only [Int.toNat_natCast, Nat.mul_zero, Nat.add_zero, ← Int.natCast_ediv]
    generalize n / D = q at *
    omega
  | x :: y :: a, ha => by
    obtain ⟨hx, ha'⟩ := lim_cons.1 ha
    obtain ⟨hy, ha''⟩ := lim_cons.1 ha'
    obtain ⟨i1, i2, i3⟩ := rightl_val hM (y :: a) ha'
    refine ⟨?_, ?_, ?_⟩
    · rw [rightl, lim_cons]; exact ⟨by omega, i1⟩
    · rw [rightl, val_cons, i2]
      simp only [val_cons]
      obtain ⟨n, rfl⟩ := Int.eq_ofNat_of_zero_le hx.1
      obtain ⟨m, rfl⟩ := Int.eq_ofNat_of_zero_le hy.1
      rw [Int.toNat_natCast, Int.toNat_natCast, right_step hM (by omega)]
      have e : ((m : Int) * 4294967296 + (n : Int)) = ((m * 4294967296 + n : Nat) : Int) := by omega
      rw [e, ← Int.natCast_ediv]
      generalize (m * 4294967296 + n) / D = q
      generalize (m + 4294967296 * val a) / D = q2
      omega
    · rw [rightl, List.length_cons, i3]; rfl
theorem right_l0 {a : List Int} {by_ : Int} (ha : lim a) (h0 : 0 ≤ by_) (h1 : by_ ≤ 31) (hl : a.length < 35184372088800) : ∀ (s : List Int) (i : Nat) (p : List Int), a.drop i = s → i + s.length = a.length → p.length = i → lim p →
    Ev (fun k => nat_right.l0 k a by_ (p ++ List.replicate s.length 0) a (a.length : Int) (i : Int)) (ofN (val (p ++ rightl (2 ^ by_.toNat) s))) := by
  obtain ⟨hD, hD2⟩ := pow31 h0 h1
  intro s
  induction s with
  | nil =>
    intro i p hs hi hp hlp
    simp only [List.length_nil] at hi
    refine Ev.step (f := fun k => nat_cut.f k p) (fun k => ?_) (by simpa only [rightl, List.append_nil] using cut_ev hlp (by omega))
    simp only [nat_right.l0]; rw [if_neg (by omega)]; simp
  | cons x s ih =>
    intro i p hs hi hp hlp
    obtain ⟨e1, e2, e3⟩ := rd_drop hs
    have hxs := lim_drop ha i
    rw [hs] at hxs
    obtain ⟨hx, hls⟩ := lim_cons.1 hxs
    simp only [List.length_cons] at hi
    have eshr : ∀ z : Int, shr .u64 z by_ = z / 2 ^ by_.toNat := fun z => by
      unfold shr; rw [show min by_.toNat IntKind.u64.bits = by_.toNat from Nat.min_eq_left (by show by_.toNat ≤ 64; omega)]
    cases s with
    | nil =>
      simp only [List.length_nil] at hi
      have h := ih (i + 1) (p ++ [x / 2 ^ by_.toNat % 4294967296]) e3 (by simp; omega) (by simp; omega) (lim_append.2 ⟨hlp, by intro z hz; simp at hz; subst hz; omega⟩)
      refine Ev.step (f := fun k => nat_right.l0 k a by_ ((p ++ [x / 2 ^ by_.toNat % 4294967296]) ++ List.replicate ([] : List Int).length 0) a (a.length : Int) ((i + 1 : Nat) : Int)) (fun k => ?_) (by simpa only [rightl, List.append_nil] using h)
      simp only [nat_right.l0]
      rw [if_pos (by omega), if_pos (by omega), if_pos (by omega), w64 (x := (i : Int) + 1) (by omega) (by omega), if_neg (by omega), if_pos (by omega), if_pos (by simp; omega), e1, u64 hx.1 (by omega), eshr, show List.replicate [x].length (0 : Int) = 0 :: [] from rfl, set_app _ _ _ _ _ (by omega)]
      simp
    | cons y s =>
      obtain ⟨f1, f2, f3⟩ := rd_drop e3
      obtain ⟨hy, _⟩ := lim_cons.1 hls
      simp only [List.length_cons] at hi
      have h := ih (i + 1) (p ++ [(y * 4294967296 + x) / 2 ^ by_.toNat % 4294967296]) e3 (by simp; omega) (by simp; omega) (lim_append.2 ⟨hlp, by intro z hz; simp at hz; subst hz; omega⟩)
      refine Ev.step (f := fun k => nat_right.l0 k a by_ ((p ++ [(y * 4294967296 + x) / 2 ^ by_.toNat % 4294967296]) ++ List.replicate (y :: s).length 0) a (a.length : Int) ((i + 1 : Nat) : Int)) (fun k => ?_) (by simpa only [rightl, List.append_assoc, List.singleton_append] using h)
      have eo : Go.bits .or .u64 x (y * 4294967296) = y * 4294967296 + x := by
        rw [← or64' hy.1 hy.2 hx.1 hx.2, u64_or _ _ hx.1 (by omega) (by omega) (by omega), u64_or _ _ (by omega) (by omega) hx.1 (by omega), Nat.or_comm]
      simp only [nat_right.l0]
      rw [if_pos (by omega), if_pos (by omega), if_pos (by omega), w64 (x := (i : Int) + 1) (by omega) (by omega), if_pos (by omega), if_pos (by omega), if_pos (by omega), if_pos (by simp; omega), e1]
      have f1' : rd a ((i : Int) + 1) = y := f1
      rw [f1', u64 hx.1 (by omega), u64 hy.1 (by omega), u64 (x := y * 4294967296) (by omega) (by omega), eo, eshr, show List.replicate (x :: y :: s).length (0 : Int) = 0 :: List.replicate (y :: s).length 0 from rfl, set_app _ _ _ _ _ (by omega)]
      simp
theorem right_ev {a : List Int} {by_ : Int} (ha : lim a) (h0 : 0 ≤ by_) (h1 : by_ ≤ 31) (hl : a.length < 35184372088800) : Ev (fun k => nat_right.f k a by_) (ofN (val a / 2 ^ by_.toNat)) := by
  have h := right_l0 ha h0 h1 hl a 0 [] rfl (by simp) rfl lim_nil
  have hM : 2 ^ by_.toNat * 2 ^ (32 - by_.toNat) = 4294967296 := by rw [← Nat.pow_add, show by_.toNat + (32 - by_.toNat) = 32 by omega]
  obtain ⟨_, i2, _⟩ := rightl_val hM a ha
  have e : (((2 ^ by_.toNat : Nat)) : Int) = 2 ^ by_.toNat := by simp
  rw [e] at i2
  simp only [List.nil_append] at h
  rw [i2] at h
  unfold nat_right.f
  refine Ev.congr (fun k => ?_) h
  rw [if_pos (by omega), if_pos (by omega), Int.toNat_natCast]; rfl
end Go.Proofs.Ytaclkccgjpjdjaa.Nt
end
section
namespace Go.Proofs.Ytaclkccgjpjdjaa.Nt
theorem kn_first {qt v1 v2 vr P t u2 ur U V : Nat} (hV : V = (v1 * 4294967296 + v2) * P + vr) (hU : U = (t * 4294967296 + u2) * P + ur) (h : qt * V ≤ U) (hu2 : u2 < 4294967296) (hur : ur < P) (hv1 : 0 < v1) : qt ≤ t / v1 := by
  rw [Nat.le_div_iff_mul_le hv1]
  apply Nat.le_of_not_lt
  intro hc
  have h1 : (t + 1) * (4294967296 * P) ≤ (qt * v1) * (4294967296 * P) := Nat.mul_le_mul_right _ hc
  have h2 : (qt * v1) * (4294967296 * P) ≤ qt * V := by
    rw [hV, Nat.mul_assoc]
    apply Nat.mul_le_mul_left
    have : v1 * (4294967296 * P) = v1 * 4294967296 * P := by rw [Nat.mul_assoc]
    rw [this, Nat.add_mul]; omega
  have h3 : (u2 + 1) * P ≤ 4294967296 * P := Nat.mul_le_mul_right _ hu2
  rw [Nat.add_mul] at h1 h3
  have h4 : U = t * (4294967296 * P) + u2 * P + ur := by rw [hU, Nat.add_mul, Nat.mul_assoc]
  omega
theorem kn_less {qt q r v1 v2 vr P t u2 ur U V : Nat} (hV : V = (v1 * 4294967296 + v2) * P + vr) (hU : U = (t * 4294967296 + u2) * P + ur) (h : qt * V ≤ U) (hur : ur < P) (ht : t = q * v1 + r) (hc : r * 4294967296 + u2 < q * v2) : qt < q := by
  apply Nat.lt_of_not_le
  intro hq
  have h1 : q * V ≤ qt * V := Nat.mul_le_mul_right _ hq
  have h2 : q * V = (q * (v1 * 4294967296 + v2)) * P + q * vr := by rw [hV, Nat.mul_add, Nat.mul_assoc]
  have h3 : t * 4294967296 + u2 + 1 ≤ q * (v1 * 4294967296 + v2) := by
    rw [Nat.mul_add, ← Nat.mul_assoc, ht, Nat.add_mul]; omega
  have h4 := Nat.mul_le_mul_right P h3
  rw [Nat.add_mul _ 1] at h4
  omega
theorem kn_near {q r v1 v2 vr P t u2 ur U V : Nat} (hV : V = (v1 * 4294967296 + v2) * P + vr) (hU : U = (t * 4294967296 + u2) * P + ur) (hvr : vr < P) (hv1 : 0 < v1) (hq : q < 4294967296) (ht : t = q * v1 + r) (hc : q * v2 ≤ r * 4294967296 + u2) : (q - 1) * V ≤ U := by
  have h3 : q * (v1 * 4294967296 + v2) ≤ t * 4294967296 + u2 := by
    rw [Nat.mul_add, ← Nat.mul_assoc, ht, Nat.add_mul]; omega
  have h4 := Nat.mul_le_mul_right P h3
  rcases Nat.eq_zero_or_pos q with rfl | hp
  · simp
  · obtain ⟨p, rfl⟩ : ∃ p, q = p + 1 := ⟨q - 1, by omega⟩
    rw [Nat.add_sub_cancel]
    have h5 : p * V = p * (v1 * 4294967296 + v2) * P + p * vr := by rw [hV, Nat.mul_add, Nat.mul_assoc]
    have h6 : p * vr ≤ (v1 * 4294967296 + v2) * P := Nat.mul_le_mul (by omega) (by omega)
    rw [Nat.add_mul p 1, Nat.one_mul, Nat.add_mul] at h4
    omega
end Go.Proofs.Ytaclkccgjpjdjaa.Nt
end
section
/- The nat functions as they are printed tell the numbers that they should: LeadingZeros32, guess, take. -/
namespace Go.Proofs.Ytaclkccgjpjdjaa.Nt
open Go.RowKit Go.Proofs.YtaclkccgjpjdjaaW.PrintWords Go.Proofs.YtaclkccgjpjdjaaW.PrintMore Go.Proofs.Ytaclkccgjpjdjaa.N
set_option linter.unusedVariables false
set_option linter.unusedSimpArgs false
set_option maxRecDepth 100000 in
theorem len32_24 {a : Int} (h0 : 16777216 ≤ a) (h1 : a < 4294967296) : bits_Len32.f a = (bits_Len32.f (a / 16777216)).map (fun v => 24 + v) := by
  unfold bits_Len32.f
  rw [if_pos (show a ≥ 65536 by omega), if_pos (show a / 65536 ≥ 256 by omega), if_pos (show 0 ≤ a / 65536 / 256 % 256 by omega), if_pos (show a / 65536 / 256 % 256 < 256 by omega),
    if_neg (show ¬ a / 16777216 ≥ 65536 by omega), if_neg (show ¬ a / 16777216 ≥ 256 by omega), if_pos (show 0 ≤ a / 16777216 % 256 by omega), if_pos (show a / 16777216 % 256 < 256 by omega), show a / 65536 / 256 % 256 = a / 16777216 % 256 by omega]
  generalize hz : bt _ (a / 16777216 % 256) = z
  have hr := bt_range _ _ |> hz.subst (motive := fun y => 0 ≤ y ∧ y ≤ 255)
  simp only [Option.map_some]
  congr 1
  unfold wrap64
  omega
set_option maxRecDepth 100000 in
theorem len32_16 {a : Int} (h0 : 65536 ≤ a) (h1 : a < 16777216) : bits_Len32.f a = (bits_Len32.f (a / 65536)).map (fun v => 16 + v) := by
  unfold bits_Len32.f
  rw [if_pos (show a ≥ 65536 by omega), if_neg (show ¬ a / 65536 ≥ 256 by omega), if_pos (show 0 ≤ a / 65536 % 256 by omega), if_pos (show a / 65536 % 256 < 256 by omega),
    if_neg (show ¬ a / 65536 ≥ 65536 by omega), if_neg (show ¬ a / 65536 ≥ 256 by omega), if_pos (show 0 ≤ a / 65536 % 256 by omega), if_pos (show a / 65536 % 256 < 256 by omega)]
  generalize hz : bt _ (a / 65536 % 256) = z
  have hr := bt_range _ _ |> hz.subst (motive := fun y => 0 ≤ y ∧ y ≤ 255)
  simp only [Option.map_some]
  congr 1
  unfold wrap64
  omega
set_option maxRecDepth 100000 in
theorem len32_8 {a : Int} (h0 : 256 ≤ a) (h1 : a < 65536) : bits_Len32.f a = (bits_Len32.f (a / 256)).map (fun v => 8 + v) := by
  unfold bits_Len32.f
  rw [if_neg (show ¬ a ≥ 65536 by omega), if_pos (show a ≥ 256 by omega), if_pos (show 0 ≤ a / 256 % 256 by omega), if_pos (show a / 256 % 256 < 256 by omega),
    if_neg (show ¬ a / 256 ≥ 65536 by omega), if_neg (show ¬ a / 256 ≥ 256 by omega), if_pos (show 0 ≤ a / 256 % 256 by omega), if_pos (show a / 256 % 256 < 256 by omega)]
  generalize hz : bt _ (a / 256 % 256) = z
  have hr := bt_range _ _ |> hz.subst (motive := fun y => 0 ≤ y ∧ y ≤ 255)
  simp only [Option.map_some]
  congr 1
  unfold wrap64
  omega
def len8ok : Option Int → Nat → Bool
  | some v, c => decide (v = 0 ∧ c = 0 ∨ 1 ≤ v ∧ v ≤ 8 ∧ 2 ^ (v.toNat - 1) ≤ c ∧ c < 2 ^ v.toNat)
  | none, _ => false
theorem len8 : ∀ c : Fin 256, len8ok (bits_Len32.f ((c.val : Nat) : Int)) c.val = true := by decide +kernel
theorem len32 {a : Int} (h0 : 0 < a) (h1 : a < 4294967296) : ∃ n : Nat, bits_Len32.f a = some (n : Int) ∧ 1 ≤ n ∧ n ≤ 32 ∧ (2 : Int) ^ (n - 1) ≤ a ∧ a < 2 ^ n := by
  have key : ∀ c : Int, 0 < c → c < 256 → ∃ n : Nat, bits_Len32.f c = some (n : Int) ∧ 1 ≤ n ∧ n ≤ 8 ∧ (2 : Int) ^ (n - 1) ≤ c ∧ c < 2 ^ n := by
    intro c c0 c1
    have h := len8 ⟨c.toNat, by omega⟩
    rw [show ((c.toNat : Nat) : Int) = c by omega] at h
    cases hv : bits_Len32.f c with
    | none => rw [hv] at h; cases h
    | some v =>
      rw [hv] at h
      replace h := of_decide_eq_true h
      rcases h with ⟨h, h'⟩ | ⟨h2, h3, h4, h5⟩
      · exact absurd h' (by simp; omega)
      · refine ⟨v.toNat, congrArg some (by omega), by omega, by omega, ?_, ?_⟩
        · have : (2 : Int) ^ (v.toNat - 1) = ((2 ^ (v.toNat - 1) : Nat) : Int) := by simp
          rw [this]; simp only at h4; omega
        · have : (2 : Int) ^ (v.toNat) = ((2 ^ (v.toNat) : Nat) : Int) := by simp
          rw [this]; simp only at h5; omega
  have up : ∀ (s : Nat) (S : Int), S = 2 ^ s → 0 < a / S → a / S < 256 → s ≤ 24 → bits_Len32.f a = (bits_Len32.f (a / S)).map (fun v => (s : Int) + v) → ∃ n : Nat, bits_Len32.f a = some (n : Int) ∧ 1 ≤ n ∧ n ≤ 32 ∧ (2 : Int) ^ (n - 1) ≤ a ∧ a < 2 ^ n := by
    intro s S hS p0 p1 hs he
    obtain ⟨n, e, n1, n2, n3, n4⟩ := key _ p0 p1
    have hS0 : 0 < S := by rw [hS]; exact Int.pow_pos (by omega)
    have hd := Int.mul_ediv_add_emod a S
    have hm0 := Int.emod_nonneg a (show S ≠ 0 by omega)
    have hm1 := Int.emod_lt_of_pos a hS0
    refine ⟨s + n, by rw [he, e]; exact congrArg some (show (s : Int) + (n : Int) = ((s + n : Nat) : Int) by omega), by omega, by omega, ?_, ?_⟩
    · have h3 : S * 2 ^ (n - 1) ≤ S * (a / S) := Int.mul_le_mul_of_nonneg_left n3 (by omega)
      rw [show s + n - 1 = s + (n - 1) by omega, Int.pow_add, ← hS]; omega
    · have h3 : S * (a / S + 1) ≤ S * 2 ^ n := Int.mul_le_mul_of_nonneg_left (by omega) (by omega)
      rw [Int.mul_add] at h3
      rw [Int.pow_add, ← hS]; omega
  by_cases c1 : a ≥ 65536
  · by_cases c2 : a ≥ 16777216
    · exact up 24 16777216 rfl (by omega) (by omega) (by omega) (len32_24 c2 h1)
    · exact up 16 65536 rfl (by omega) (by omega) (by omega) (len32_16 c1 (by omega))
  · by_cases c2 : a ≥ 256
    · exact up 8 256 rfl (by omega) (by omega) (by omega) (len32_8 c2 (by omega))
    · obtain ⟨n, e, r1, r2, r3⟩ := key a h0 (by omega)
      exact ⟨n, e, r1, by omega, r3⟩
theorem zeros32 {a : Int} (h0 : 0 < a) (h1 : a < 4294967296) : ∃ b : Nat, bits_LeadingZeros32.f a = some (b : Int) ∧ b ≤ 31 ∧ 2147483648 ≤ a * 2 ^ b ∧ a * 2 ^ b < 4294967296 := by
  obtain ⟨n, e, n1, n2, n3, n4⟩ := len32 h0 h1
  refine ⟨32 - n, ?_, by omega, ?_, ?_⟩
  · unfold bits_LeadingZeros32.f; rw [e, Option.bind_some, w64 (by omega) (by omega)]; congr 1; omega
  · have h : (2 : Int) ^ (n - 1) * 2 ^ (32 - n) ≤ a * 2 ^ (32 - n) := Int.mul_le_mul_of_nonneg_right n3 (Int.le_of_lt (Int.pow_pos (by omega)))
    rw [← Int.pow_add, show n - 1 + (32 - n) = 31 by omega] at h
    exact h
  · have hp : (0 : Int) < 2 ^ (32 - n) := Int.pow_pos (by omega)
    have h : a * 2 ^ (32 - n) < 2 ^ n * 2 ^ (32 - n) := Int.mul_lt_mul_of_pos_right n4 hp
    rw [← Int.pow_add, show n + (32 - n) = 32 by omega] at h
    exact h
section
variable {u v : List Int} {at_ : Nat} {P : Nat} {U V t : Nat} {v1 v2 u2 vr ur : Nat}
theorem guess_j (hV : V = (v1 * 4294967296 + v2) * P + vr) (hU : U = (t * 4294967296 + u2) * P + ur) (hvr : vr < P) (hur : ur < P) (hv1 : 2147483648 ≤ v1) (hv1' : v1 < 4294967296) (hv2 : v2 < 4294967296) (hu2 : u2 < 4294967296)
    (ht : t < v1 * 4294967296 + 4294967296) (hlt : U < V * 4294967296) (hVp : 0 < V) (hn : 2 ≤ v.length) (hbig : u.length < 1000000000000000) (hat : at_ + v.length < u.length)
    (r1 : rd v ((v.length : Int) - 1) = (v1 : Int)) (r2 : rd v ((v.length : Int) - 2) = (v2 : Int)) (r3 : rd u ((at_ : Int) + (v.length : Int) - 2) = (u2 : Int)) :
    ∀ (q : Nat) (r : Nat), q * v1 + r = t → r < 4294967296 → q ≤ 4294967297 → U / V ≤ q →
    ∃ q' : Nat, Ev (fun k => nat_guess.l0 k u v (at_ : Int) (v.length : Int) (q : Int) (r : Int)) (q' : Int) ∧ q' < 4294967296 ∧ U / V ≤ q' ∧ (q' - 1) * V ≤ U := by
  have hqt : U / V * V ≤ U := Nat.div_mul_le_self _ _
  have hqb : U / V < 4294967296 := (Nat.div_lt_iff_lt_mul hVp).2 (by rw [Nat.mul_comm]; exact hlt)
  intro q
  induction q with
  | zero =>
    intro r hqr hr hq1 hq2
    refine ⟨0, ?_, by omega, hq2, by simp⟩
    refine Ev.step (f := fun k => nat_guess.j1 k u v (at_ : Int) (v.length : Int) ((0 : Nat) : Int) (r : Int) false) (fun k => ?_) (Ev.step (f := fun _ => some 0) (fun k => by simp [nat_guess.j1]) (Ev.now _))
    simp only [nat_guess.l0]
    rw [if_pos (by omega), w64 (x := (v.length : Int) - 2) (by omega) (by omega), if_pos (by omega), if_pos (by omega), w64 (x := (at_ : Int) + v.length) (by omega) (by omega), w64 (by omega) (by omega), if_pos (by omega), if_pos (by omega), r2, r3, u64 (x := (v2 : Int)) (by omega) (by omega), u64 (x := (u2 : Int)) (by omega) (by omega),
      u64 (x := (r : Int) * 4294967296) (by omega) (by omega), or64' (by omega) (by omega) (by omega) (by omega)]
    congr 1
    apply decide_eq_false
    rw [show ((0 : Nat) : Int) * (v2 : Int) = 0 by simp, u64 (by omega) (by omega)]
    omega
  | succ q ih =>
    intro r hqr hr hq1 hq2
    have hdown : ∀ (hless : U / V < q + 1), ∃ q' : Nat, Ev (fun k => nat_guess.j1 k u v (at_ : Int) (v.length : Int) ((q + 1 : Nat) : Int) (r : Int) true) (q' : Int) ∧ q' < 4294967296 ∧ U / V ≤ q' ∧ (q' - 1) * V ≤ U := by
      intro hless
      have hqr' : q * v1 + (r + v1) = t := by rw [Nat.add_mul] at hqr; omega
      have hrw : IntKind.u64.wrap ((r : Int) + (v1 : Int)) = ((r + v1 : Nat) : Int) := by rw [u64 (by omega) (by omega)]; omega
      have hqw : IntKind.u64.wrap (((q + 1 : Nat) : Int) - 1) = (q : Int) := by rw [u64 (by omega) (by omega)]; omega
      by_cases hc : r + v1 < 4294967296
      · obtain ⟨q', h1, h2⟩ := ih (r + v1) hqr' hc (by omega) (by omega)
        refine ⟨q', Ev.step (f := fun k => nat_guess.l0 k u v (at_ : Int) (v.length : Int) (q : Int) ((r + v1 : Nat) : Int)) (fun k => ?_) h1, h2⟩
        simp only [nat_guess.j1]
        rw [if_true, w64 (x := (v.length : Int) - 1) (by omega) (by omega), if_pos (by omega), if_pos (by omega), r1, u64 (x := (v1 : Int)) (by omega) (by omega), hrw, if_pos (by omega), hqw]
      · have hq : q < 4294967296 := by
          apply Nat.lt_of_not_le; intro hge
          have := Nat.mul_le_mul_right v1 hge
          omega
        refine ⟨q, Ev.step (f := fun _ => some (q : Int)) (fun k => ?_) (Ev.now _), hq, by omega, ?_⟩
        · simp only [nat_guess.j1]
          rw [if_true, w64 (x := (v.length : Int) - 1) (by omega) (by omega), if_pos (by omega), if_pos (by omega), r1, u64 (x := (v1 : Int)) (by omega) (by omega), hrw, if_neg (by omega), hqw]
        · refine kn_near hV hU hvr (by omega) hq hqr'.symm ?_
          have h1 : q * v2 ≤ 4294967296 * 4294967296 := Nat.mul_le_mul (by omega) (by omega)
          omega
    by_cases hbigq : (q + 1) / 4294967296 = 0
    · have hqv : (q + 1) * v2 ≤ 4294967295 * 4294967295 := Nat.mul_le_mul (by omega) (by omega)
      have hcast : (((q + 1 : Nat) : Int) * (v2 : Int)) = (((q + 1) * v2 : Nat) : Int) := by rw [Int.natCast_mul]
      have estep : ∀ k, nat_guess.l0 (k + 1) u v (at_ : Int) (v.length : Int) ((q + 1 : Nat) : Int) (r : Int) = nat_guess.j1 k u v (at_ : Int) (v.length : Int) ((q + 1 : Nat) : Int) (r : Int) (decide (r * 4294967296 + u2 < (q + 1) * v2)) := by
        intro k
        simp only [nat_guess.l0]
        rw [if_pos (by omega), w64 (x := (v.length : Int) - 2) (by omega) (by omega), if_pos (by omega), if_pos (by omega), w64 (x := (at_ : Int) + v.length) (by omega) (by omega), w64 (by omega) (by omega), if_pos (by omega), if_pos (by omega), r2, r3, u64 (x := (v2 : Int)) (by omega) (by omega), u64 (x := (u2 : Int)) (by omega) (by omega),
          u64 (x := (r : Int) * 4294967296) (by omega) (by omega), or64' (by omega) (by omega) (by omega) (by omega), hcast, u64 (by omega) (by omega)]
        congr 1
        rw [decide_eq_decide]
        omega
      by_cases hc : r * 4294967296 + u2 < (q + 1) * v2
      · obtain ⟨q', h1, h2⟩ := hdown (kn_less hV hU hqt hur hqr.symm hc)
        refine ⟨q', Ev.step (fun k => ?_) h1, h2⟩
        rw [estep, decide_eq_true hc]
      · refine ⟨q + 1, Ev.step (f := fun k => nat_guess.j1 k u v (at_ : Int) (v.length : Int) ((q + 1 : Nat) : Int) (r : Int) false) (fun k => ?_) (Ev.step (f := fun _ => some ((q + 1 : Nat) : Int)) (fun k => ?_) (Ev.now _)), by omega, hq2, kn_near hV hU hvr (by omega) (by omega) hqr.symm (by omega)⟩
        · rw [estep, decide_eq_false hc]
        · simp [nat_guess.j1]
    · obtain ⟨q', h1, h2⟩ := hdown (by omega)
      refine ⟨q', Ev.step (fun k => ?_) h1, h2⟩
      simp only [nat_guess.l0]
      rw [if_neg (by omega)]
end
theorem guess_ev {p ur vr tl : List Int} {u0 u1 u2 v1 v2 : Int} {u v : List Int} (hu : u = p ++ (ur ++ u2 :: u1 :: u0 :: tl)) (hv : v = vr ++ [v2, v1]) (hl : ur.length = vr.length) (hlu : lim u) (hlv : lim v) (hv1 : 2147483648 ≤ v1)
    (hlt : val (ur ++ [u2, u1, u0]) < val v * 4294967296) (hbig : u.length < 100000000000000) :
    ∃ q : Nat, Ev (fun k => nat_guess.f k u v (p.length : Int)) (q : Int) ∧ q < 4294967296 ∧ val (ur ++ [u2, u1, u0]) / val v ≤ q ∧ (q - 1) * val v ≤ val (ur ++ [u2, u1, u0]) := by
  obtain ⟨_, hl2⟩ := lim_append.1 (hu ▸ hlu)
  obtain ⟨hlur, hl3⟩ := lim_append.1 hl2
  obtain ⟨b2, hl3⟩ := lim_cons.1 hl3
  obtain ⟨b1, hl3⟩ := lim_cons.1 hl3
  obtain ⟨b0, _⟩ := lim_cons.1 hl3
  obtain ⟨hlvr, hl4⟩ := lim_append.1 (hv ▸ hlv)
  obtain ⟨d2, hl4⟩ := lim_cons.1 hl4
  obtain ⟨d1, _⟩ := lim_cons.1 hl4
  have wur := val_lt hlur
  have wvr := val_lt hlvr
  rw [hl] at wur
  have hul : u.length = p.length + (vr.length + 3 + tl.length) := by rw [hu]; simp; omega
  have hvl : v.length = vr.length + 2 := by rw [hv]; simp
  have eV : val v = (v1.toNat * 4294967296 + v2.toNat) * 4294967296 ^ vr.length + val vr := by
    rw [hv, val_append]; simp only [val_cons, val_nil]; rw [Nat.mul_comm (4294967296 ^ vr.length)]; rw [Nat.add_comm]; congr 2 <;> omega
  have eU : val (ur ++ [u2, u1, u0]) = ((u0.toNat * 4294967296 + u1.toNat) * 4294967296 + u2.toNat) * 4294967296 ^ vr.length + val ur := by
    rw [val_append, hl]; simp only [val_cons, val_nil]; rw [Nat.mul_comm (4294967296 ^ vr.length)]; rw [Nat.add_comm]; congr 2 <;> omega
  generalize hU : val (ur ++ [u2, u1, u0]) = U at *
  generalize hV : val v = V at *
  generalize 4294967296 ^ vr.length = P at *
  have hPV : P ≤ V := by
    have : 1 * P ≤ (v1.toNat * 4294967296 + v2.toNat) * P := Nat.mul_le_mul_right _ (by omega)
    omega
  have hu0 : u0.toNat ≤ v1.toNat := by
    apply Nat.le_of_not_lt; intro hc
    have h1 : ((v1.toNat + 1) * 18446744073709551616) * P ≤ ((u0.toNat * 4294967296 + u1.toNat) * 4294967296 + u2.toNat) * P := Nat.mul_le_mul_right _ (by omega)
    have h2 : (v1.toNat * 4294967296 + v2.toNat + 1) * P ≤ (v1.toNat + 1) * 4294967296 * P := Nat.mul_le_mul_right _ (by omega)
    rw [Nat.add_mul _ 1] at h2
    have h3 : (v1.toNat + 1) * 18446744073709551616 * P = 4294967296 * ((v1.toNat + 1) * 4294967296 * P) := by
      rw [show (18446744073709551616 : Nat) = 4294967296 * 4294967296 by decide]; simp only [Nat.mul_assoc, Nat.mul_comm, Nat.mul_left_comm]
    omega
  have ht : u0.toNat * 4294967296 + u1.toNat < v1.toNat * 4294967296 + 4294967296 := by omega
  have hvp : 0 < v1.toNat := by omega
  have r1 : rd v ((v.length : Int) - 1) = (v1.toNat : Int) := by
    rw [hv, show vr ++ [v2, v1] = (vr ++ [v2]) ++ v1 :: [] by simp, rd_app _ _ _ _ (by simp; omega)]; omega
  have r2 : rd v ((v.length : Int) - 2) = (v2.toNat : Int) := by
    rw [hv, rd_app _ _ _ _ (by simp)]; omega
  have r3 : rd u ((p.length : Int) + (v.length : Int) - 2) = (u2.toNat : Int) := by
    rw [hu, ← List.append_assoc, rd_app _ _ _ _ (by simp; omega)]; omega
  have r4 : rd u ((p.length : Int) + (v.length : Int) - 1) = u1 := by
    rw [hu, show p ++ (ur ++ u2 :: u1 :: u0 :: tl) = (p ++ ur ++ [u2]) ++ u1 :: (u0 :: tl) by simp, rd_app _ _ _ _ (by simp; omega)]
  have r5 : rd u ((p.length : Int) + (v.length : Int)) = u0 := by
    rw [hu, show p ++ (ur ++ u2 :: u1 :: u0 :: tl) = (p ++ ur ++ [u2, u1]) ++ u0 :: tl by simp, rd_app _ _ _ _ (by simp; omega)]
  obtain ⟨q, h1, h2⟩ := guess_j (u := u) (v := v) (at_ := p.length) eV eU wvr wur (by omega) (by omega) (by omega) (by omega) ht hlt (by omega) (by omega) (by omega) (by omega) r1 r2 r3
    ((u0.toNat * 4294967296 + u1.toNat) / v1.toNat) ((u0.toNat * 4294967296 + u1.toNat) % v1.toNat) (by rw [Nat.mul_comm]; exact Nat.div_add_mod _ _) (Nat.lt_of_lt_of_le (Nat.mod_lt _ hvp) (by omega))
    (by
      apply Nat.le_of_lt_succ
      rw [Nat.div_lt_iff_lt_mul hvp]
      omega)
    (kn_first eV eU (Nat.div_mul_le_self _ _) (by omega) wur hvp)
  refine ⟨q, Ev.congr (fun k => ?_) h1, h2⟩
  unfold nat_guess.f
  rw [w64 (x := (p.length : Int) + v.length) (by omega) (by omega), if_pos (by omega), if_pos (by omega), w64 (x := (p.length : Int) + v.length - 1) (by omega) (by omega), if_pos (by omega), if_pos (by omega), w64 (x := (v.length : Int) - 1) (by omega) (by omega), if_pos (by omega), if_pos (by omega), r1, r4, r5,
    u64 (x := (v1.toNat : Int)) (by omega) (by omega), u64 (x := u0) (by omega) (by omega), u64 (x := u1) (by omega) (by omega), u64 (x := u0 * 4294967296) (by omega) (by omega), or64' b0.1 b0.2 b1.1 b1.2, if_neg (by omega), Int.tdiv_eq_ediv_of_nonneg (by omega), Int.tmod_eq_emod_of_nonneg (by omega)]
  have e : u0 * 4294967296 + u1 = ((u0.toNat * 4294967296 + u1.toNat : Nat) : Int) := by omega
  rw [e, ← Int.natCast_ediv, ← Int.natCast_emod]
  have hle : (u0.toNat * 4294967296 + u1.toNat) / v1.toNat ≤ u0.toNat * 4294967296 + u1.toNat := Nat.div_le_self _ _
  generalize (u0.toNat * 4294967296 + u1.toNat) / v1.toNat = Q at *
  rw [u64 (x := (Q : Int)) (by omega) (by omega)]
end Go.Proofs.Ytaclkccgjpjdjaa.Nt
end
section
/- The nat functions as they are printed tell the numbers that they should: take, Div. -/
namespace Go.Proofs.Ytaclkccgjpjdjaa.Nt
open Go.RowKit Go.Proofs.YtaclkccgjpjdjaaW.PrintWords Go.Proofs.YtaclkccgjpjdjaaW.PrintMore Go.Proofs.Ytaclkccgjpjdjaa.N
set_option linter.unusedVariables false
set_option linter.unusedSimpArgs false
def tkl (q : Int) : Int → Int → List Int → List Int → List Int × Int
  | c, l, r0 :: r, y :: v => (((r0 - (c + q * y) % 4294967296 - l) % 4294967296) :: (tkl q ((c + q * y) / 4294967296) (if r0 - (c + q * y) % 4294967296 - l < 0 then 1 else 0) r v).1, (tkl q ((c + q * y) / 4294967296) (if r0 - (c + q * y) % 4294967296 - l < 0 then 1 else 0) r v).2)
  | c, l, r0 :: r, [] => (((r0 - c - l) % 4294967296) :: r, if r0 - c - l < 0 then 1 else 0)
  | _, l, [], _ => ([], l)
theorem tkl_val {q : Int} (hq : 0 ≤ q ∧ q < 4294967296) : ∀ (v r : List Int) (c l : Int), lim v → lim r → r.length = v.length + 1 → 0 ≤ c → c < 4294967296 → 0 ≤ l → l ≤ 1 →
    lim (tkl q c l r v).1 ∧ (tkl q c l r v).1.length = r.length ∧ ((tkl q c l r v).2 = 0 ∨ (tkl q c l r v).2 = 1) ∧ (val (tkl q c l r v).1 : Int) - 4294967296 ^ r.length * (tkl q c l r v).2 = val r - (c + q * val v) - l
  | [], r, c, l, _, hr, hl, hc0, hc1, hl0, hl1 => by
    obtain ⟨x, rfl⟩ : ∃ x, r = [x] := by
      cases r with
      | nil => simp at hl
      | cons x r => cases r with
        | nil => exact ⟨x, rfl⟩
        | cons _ _ => simp at hl
    obtain ⟨hx, _⟩ := lim_cons.1 hr
    simp only [tkl]
    refine ⟨by intro z hz; simp only [List.mem_singleton] at hz; subst hz; omega, rfl, by split <;> simp, ?_⟩
    simp only [val_cons, val_nil, List.length_singleton, Int.pow_one]
    split <;> omega
  | y :: v, [], _, _, _, _, hl, _, _, _, _ => by simp at hl
  | y :: v, r0 :: r, c, l, hv, hr, hl, hc0, hc1, hl0, hl1 => by
    obtain ⟨hx, hr'⟩ := lim_cons.1 hr
    obtain ⟨hy, hv'⟩ := lim_cons.1 hv
    have hm := mul_lim hq hy
    generalize hL : (if r0 - (c + q * y) % 4294967296 - l < 0 then (1 : Int) else 0) = L
    have hL2 : (r0 - (c + q * y) % 4294967296 - l) % 4294967296 = r0 - (c + q * y) % 4294967296 - l + 4294967296 * L ∧ 0 ≤ L ∧ L ≤ 1 := by
      subst hL; split <;> omega
    obtain ⟨i1, i2, i3, i4⟩ := tkl_val hq v r ((c + q * y) / 4294967296) L hv' hr' (by simpa using hl) (by omega) (by omega) hL2.2.1 hL2.2.2
    simp only [tkl]
    rw [hL]
    generalize (tkl q ((c + q * y) / 4294967296) L r v).1 = T at *
    generalize (tkl q ((c + q * y) / 4294967296) L r v).2 = D at *
    refine ⟨lim_cons.2 ⟨by omega, i1⟩, by simp [i2], i3, ?_⟩
    have e : q * (((y.toNat + 4294967296 * val v : Nat)) : Int) = q * y + 4294967296 * (q * (val v : Int)) := by
      rw [show (((y.toNat + 4294967296 * val v : Nat)) : Int) = y + 4294967296 * (val v : Int) by omega, Int.mul_add, Int.mul_left_comm]
    rw [val_cons, val_cons, val_cons, e, List.length_cons, Int.pow_succ, Int.mul_comm _ (4294967296 : Int), Int.mul_assoc]
    generalize (4294967296 : Int) ^ r.length * D = X at *
    rw [hL2.1]
    omega
def adl : Int → List Int → List Int → List Int
  | c, r0 :: r, y :: v => (c + r0 + y) % 4294967296 :: adl ((c + r0 + y) / 4294967296) r v
  | c, r0 :: r, [] => (c + r0) % 4294967296 :: r
  | _, [], _ => []
theorem adl_val : ∀ (v r : List Int) (c : Int), lim v → lim r → r.length = v.length + 1 → 0 ≤ c → c ≤ 1 →
    lim (adl c r v) ∧ (adl c r v).length = r.length ∧ ∃ co : Int, 0 ≤ co ∧ co ≤ 1 ∧ (val (adl c r v) : Int) + 4294967296 ^ r.length * co = c + val r + val v
  | [], r, c, _, hr, hl, hc0, hc1 => by
    obtain ⟨x, rfl⟩ : ∃ x, r = [x] := by
      cases r with
      | nil => simp at hl
      | cons x r => cases r with
        | nil => exact ⟨x, rfl⟩
        | cons _ _ => simp at hl
    obtain ⟨hx, _⟩ := lim_cons.1 hr
    refine ⟨by intro z hz; simp only [adl, List.mem_singleton] at hz; subst hz; omega, rfl, (c + x) / 4294967296, by omega, by omega, ?_⟩
    simp only [adl, val_cons, val_nil, List.length_singleton, Int.pow_one]
    omega
  | y :: v, [], _, _, _, hl, _, _ => by simp at hl
  | y :: v, r0 :: r, c, hv, hr, hl, hc0, hc1 => by
    obtain ⟨hx, hr'⟩ := lim_cons.1 hr
    obtain ⟨hy, hv'⟩ := lim_cons.1 hv
    obtain ⟨i1, i2, co, i3, i4, i5⟩ := adl_val v r ((c + r0 + y) / 4294967296) hv' hr' (by simpa using hl) (by omega) (by omega)
    simp only [adl]
    refine ⟨lim_cons.2 ⟨by omega, i1⟩, by simp [i2], co, i3, i4, ?_⟩
    rw [val_cons, val_cons, val_cons, List.length_cons, Int.pow_succ, Int.mul_comm _ (4294967296 : Int), Int.mul_assoc]
    generalize (4294967296 : Int) ^ r.length * co = X at *
    omega
theorem and64 {x : Int} (h0 : 0 ≤ x) (h1 : x < 18446744073709551616) : Go.bits .and .u64 x 4294967295 = x % 4294967296 := by
  rw [u64_and x 4294967295 h0 (by omega) (by omega) (by omega)]
  obtain ⟨n, rfl⟩ := Int.eq_ofNat_of_zero_le h0
  have h := Nat.and_two_pow_sub_one_eq_mod n 32
  rw [Int.toNat_natCast, show (4294967295 : Int).toNat = 2 ^ 32 - 1 from rfl, h]
  rfl
theorem u64neg {x : Int} (h0 : x < 0) (h1 : -18446744073709551616 ≤ x) : IntKind.u64.wrap x = x + 18446744073709551616 := by
  simp only [IntKind.wrap, IntKind.signed, IntKind.bits]; simp; omega
theorem dif64 {x y l : Int} (hx : 0 ≤ x ∧ x < 4294967296) (hy : 0 ≤ y ∧ y < 4294967296) (hl0 : 0 ≤ l) (hl1 : l ≤ 1) :
    IntKind.u64.wrap (IntKind.u64.wrap (x - y) - l) % 4294967296 = (x - y - l) % 4294967296 ∧ IntKind.u64.wrap (IntKind.u64.wrap (x - y) - l) / 9223372036854775808 = if x - y - l < 0 then 1 else 0 := by
  by_cases h : x - y < 0
  · rw [u64neg h (by omega), u64 (x := x - y + 18446744073709551616 - l) (by omega) (by omega), if_pos (by omega)]; omega
  · rw [u64 (x := x - y) (by omega) (by omega)]
    by_cases h2 : x - y - l < 0
    · rw [u64neg h2 (by omega), if_pos h2]; omega
    · rw [u64 (by omega) (by omega), if_neg h2]; omega
theorem take_l1 {v : List Int} (hlv : lim v) (q : Int) (at_ : Nat) (hbig : at_ + v.length < 100000000000000000) (hq : 1 ≤ q ∧ q < 4294967296) (tl : List Int) : ∀ (s : List Int) (j : Nat) (p r : List Int) (c : Int), v.drop j = s → j + s.length = v.length → p.length = at_ + j → r.length = s.length + 1 → lim r → 0 ≤ c → c ≤ 1 →
    Ev (fun k => nat_take.l1 k (p ++ (r ++ tl)) v (at_ : Int) q c ((v.length : Int) + 1) (j : Int)) (q - 1, p ++ (adl c r s ++ tl)) := by
  intro s
  induction s with
  | nil =>
    intro j p r c hs hj hp hr hlr hc0 hc1
    obtain ⟨x, rfl⟩ : ∃ x, r = [x] := by
      cases r with
      | nil => simp at hr
      | cons x r => cases r with
        | nil => exact ⟨x, rfl⟩
        | cons _ _ => simp at hr
    obtain ⟨hx, _⟩ := lim_cons.1 hlr
    simp only [List.length_nil] at hj
    refine Ev.step (f := fun k => nat_take.l1 k (p ++ ((c + x) % 4294967296 :: tl)) v (at_ : Int) q ((c + x) / 4294967296) ((v.length : Int) + 1) ((j : Int) + 1)) (fun k => ?_) (Ev.step (f := fun _ => some (q - 1, p ++ (adl c [x] [] ++ tl))) (fun k => ?_) (Ev.now _))
    · simp only [nat_take.l1]
      rw [if_pos (by omega), w64 (x := (at_ : Int) + j) (by omega) (by omega), if_pos (by omega), if_pos (by simp; omega), if_neg (by omega), List.singleton_append, rd_app _ _ _ _ (by omega), set_app _ _ _ _ _ (by omega), u64 hx.1 (by omega), u64 (x := c + x) (by omega) (by omega), w64 (by omega) (by omega)]
    · simp only [nat_take.l1]
      rw [if_neg (by omega), u64 (x := q - 1) (by omega) (by omega)]
      simp only [adl, Option.some.injEq, Prod.mk.injEq]
      exact ⟨by omega, rfl⟩
  | cons y s ih =>
    intro j p r c hs hj hp hr hlr hc0 hc1
    cases r with
    | nil => simp at hr
    | cons r0 r =>
      obtain ⟨e1, e2, e3⟩ := rd_drop hs
      have hy : 0 ≤ y ∧ y < 4294967296 := by have := lim_drop hlv j; rw [hs] at this; exact (lim_cons.1 this).1
      obtain ⟨hx, hlr'⟩ := lim_cons.1 hlr
      simp only [List.length_cons] at hj hr
      have h := ih (j + 1) (p ++ [(c + r0 + y) % 4294967296]) r ((c + r0 + y) / 4294967296) e3 (by omega) (by simp; omega) (by omega) hlr' (by omega) (by omega)
      refine Ev.step (f := fun k => nat_take.l1 k ((p ++ [(c + r0 + y) % 4294967296]) ++ (r ++ tl)) v (at_ : Int) q ((c + r0 + y) / 4294967296) ((v.length : Int) + 1) ((j + 1 : Nat) : Int)) (fun k => ?_) (by simpa only [adl, List.append_assoc, List.singleton_append, List.cons_append, List.nil_append] using h)
      simp only [nat_take.l1]
      rw [if_pos (by omega), w64 (x := (at_ : Int) + j) (by omega) (by omega), if_pos (by omega), if_pos (by simp; omega), if_pos (by omega), if_pos (by omega), e1, List.cons_append, rd_app _ _ _ _ (by omega), set_app _ _ _ _ _ (by omega), u64 hx.1 (by omega), u64 hy.1 (by omega), u64 (x := c + r0) (by omega) (by omega), u64 (by omega) (by omega), w64 (by omega) (by omega)]
      simp
theorem take_l0 {v : List Int} (hlv : lim v) (q : Int) (at_ : Nat) (hbig : at_ + v.length < 100000000000000000) (hq : 0 ≤ q ∧ q < 4294967296) (tl : List Int) : ∀ (s : List Int) (j : Nat) (p r : List Int) (c l : Int), v.drop j = s → j + s.length = v.length → p.length = at_ + j → r.length = s.length + 1 → lim r → 0 ≤ c → c < 4294967296 → 0 ≤ l → l ≤ 1 →
    ∀ R : Int × List Int, ((tkl q c l r s).2 = 0 → R = (q, p ++ ((tkl q c l r s).1 ++ tl))) → ((tkl q c l r s).2 = 1 → Ev (fun k => nat_take.l1 k (p ++ ((tkl q c l r s).1 ++ tl)) v (at_ : Int) q 0 ((v.length : Int) + 1) 0) R) →
    Ev (fun k => nat_take.l0 k (p ++ (r ++ tl)) v (at_ : Int) q c l ((v.length : Int) + 1) (j : Int)) R := by
  intro s
  induction s with
  | nil =>
    intro j p r c l hs hj hp hr hlr hc0 hc1 hl0 hl1 R g0 g1
    obtain ⟨x, rfl⟩ : ∃ x, r = [x] := by
      cases r with
      | nil => simp at hr
      | cons x r => cases r with
        | nil => exact ⟨x, rfl⟩
        | cons _ _ => simp at hr
    obtain ⟨hx, _⟩ := lim_cons.1 hlr
    simp only [List.length_nil] at hj
    obtain ⟨d1, d2⟩ := dif64 hx (show 0 ≤ c ∧ c < 4294967296 by omega) hl0 hl1
    simp only [tkl] at g0 g1
    refine Ev.step (f := fun k => nat_take.l0 k (p ++ ((x - c - l) % 4294967296 :: tl)) v (at_ : Int) q (c / 4294967296) (if x - c - l < 0 then 1 else 0) ((v.length : Int) + 1) ((j : Int) + 1)) (fun k => ?_) ?_
    · simp only [nat_take.l0]
      rw [if_pos (by omega), w64 (x := (at_ : Int) + j) (by omega) (by omega), if_neg (by omega), if_pos (by omega), if_pos (by simp; omega), List.singleton_append, rd_app _ _ _ _ (by omega), set_app _ _ _ _ _ (by omega), u64 hx.1 (by omega), and64 (by omega) (by omega), show c % 4294967296 = c by omega, d1, d2, w64 (by omega) (by omega)]
    · by_cases hb : x - c - l < 0
      · rw [if_pos hb] at g0 g1 ⊢
        refine Ev.step (fun k => ?_) (g1 rfl)
        simp only [nat_take.l0]
        rw [if_neg (by omega), if_neg (by omega), w64 (by omega) (by omega)]
        rfl
      · rw [if_neg hb] at g0 g1 ⊢
        refine Ev.step (f := fun _ => some R) (fun k => ?_) (Ev.now _)
        simp only [nat_take.l0]
        rw [if_neg (by omega)]
        simp only [if_true]
        rw [g0 rfl, show q % 4294967296 = q by omega]
        rfl
  | cons y s ih =>
    intro j p r c l hs hj hp hr hlr hc0 hc1 hl0 hl1 R g0 g1
    cases r with
    | nil => simp at hr
    | cons r0 r =>
      obtain ⟨e1, e2, e3⟩ := rd_drop hs
      have hy : 0 ≤ y ∧ y < 4294967296 := by have := lim_drop hlv j; rw [hs] at this; exact (lim_cons.1 this).1
      obtain ⟨hx, hlr'⟩ := lim_cons.1 hlr
      have hm := mul_lim hq hy
      simp only [List.length_cons] at hj hr
      simp only [tkl] at g0 g1
      obtain ⟨d1, d2⟩ := dif64 hx (show 0 ≤ (c + q * y) % 4294967296 ∧ (c + q * y) % 4294967296 < 4294967296 by omega) hl0 hl1
      have h := ih (j + 1) (p ++ [(r0 - (c + q * y) % 4294967296 - l) % 4294967296]) r ((c + q * y) / 4294967296) (if r0 - (c + q * y) % 4294967296 - l < 0 then 1 else 0) e3 (by omega) (by simp; omega) (by omega) hlr' (by omega) (by omega) (by split <;> omega) (by split <;> omega) R
        (fun hz => by rw [g0 hz]; simp) (fun hz => by
          have := g1 hz
          simpa only [List.append_assoc, List.singleton_append, List.cons_append, List.nil_append] using this)
      refine Ev.step (f := fun k => nat_take.l0 k ((p ++ [(r0 - (c + q * y) % 4294967296 - l) % 4294967296]) ++ (r ++ tl)) v (at_ : Int) q ((c + q * y) / 4294967296) (if r0 - (c + q * y) % 4294967296 - l < 0 then 1 else 0) ((v.length : Int) + 1) ((j + 1 : Nat) : Int)) (fun k => ?_) h
      simp only [nat_take.l0]
      rw [if_pos (by omega), w64 (x := (at_ : Int) + j) (by omega) (by omega), if_pos (by omega), if_pos (by omega), if_pos (by omega), if_pos (by simp; omega), e1, List.cons_append, rd_app _ _ _ _ (by omega), set_app _ _ _ _ _ (by omega), u64 hx.1 (by omega), u64 hy.1 (by omega), u64 (x := q * y) (by omega) (by omega), u64 (x := c + q * y) (by omega) (by omega), and64 (by omega) (by omega), d1, d2, w64 (by omega) (by omega)]
      simp
theorem take_ev {p R tl v : List Int} {q : Nat} (hlv : lim v) (hlR : lim R) (hl : R.length = v.length + 1) (hbig : p.length + v.length < 100000000000000000) (hV : 0 < val v) (hq : q < 4294967296) (h1 : val R / val v ≤ q) (h2 : (q - 1) * val v ≤ val R) :
    ∃ R' : List Int, Ev (fun k => nat_take.f k (p ++ (R ++ tl)) v (p.length : Int) (q : Int)) (((val R / val v : Nat) : Int), p ++ (R' ++ tl)) ∧ lim R' ∧ R'.length = R.length ∧ val R' = val R % val v := by
  obtain ⟨t1, t2, t3, t4⟩ := tkl_val (q := (q : Int)) ⟨by omega, by omega⟩ v R 0 0 hlv hlR hl (by omega) (by omega) (by omega) (by omega)
  have hdm := Nat.div_add_mod (val R) (val v)
  have hml := Nat.mod_lt (val R) hV
  have hlt0 := val_lt t1
  have hvlt := val_lt hlv
  have hf : ∀ X, Ev (fun k => nat_take.l0 k (p ++ (R ++ tl)) v (p.length : Int) (q : Int) 0 0 ((v.length : Int) + 1) ((0 : Nat) : Int)) X → Ev (fun k => nat_take.f k (p ++ (R ++ tl)) v (p.length : Int) (q : Int)) X := fun X h => by
    unfold nat_take.f
    refine Ev.congr (fun k => ?_) h
    rw [w64 (by omega) (by omega)]; rfl
  rcases t3 with hb | hb
  · rw [hb, Int.mul_zero, Int.sub_zero, Int.zero_add, Int.sub_zero] at t4
    have e : val (tkl (q : Int) 0 0 R v).1 + q * val v = val R := by
      have : ((val (tkl (q : Int) 0 0 R v).1 + q * val v : Nat) : Int) = (val R : Int) := by rw [Int.natCast_add, Int.natCast_mul]; omega
      omega
    have hq2 : q ≤ val R / val v := (Nat.le_div_iff_mul_le hV).2 (by omega)
    have hqi : 0 ≤ (q : Int) ∧ (q : Int) < 4294967296 := ⟨by omega, by omega⟩
    obtain rfl : q = val R / val v := by omega
    refine ⟨(tkl ((val R / val v : Nat) : Int) 0 0 R v).1, hf _ (take_l0 hlv _ p.length (by omega) hqi tl v 0 p R 0 0 rfl (by omega) (by omega) hl hlR (by omega) (by omega) (by omega) (by omega) _ (fun _ => rfl) (fun h => by rw [hb] at h; cases h)), t1, t2, ?_⟩
    rw [Nat.mul_comm] at e; omega
  · rw [hb, Int.mul_one, Int.zero_add, Int.sub_zero] at t4
    generalize hT : (tkl (q : Int) 0 0 R v).1 = T at *
    have hpow : ((4294967296 : Int) ^ R.length) = ((4294967296 ^ R.length : Nat) : Int) := by simp
    rw [hpow] at t4
    rw [t2] at hlt0
    have hc : (q : Int) * (val v : Int) = ((q * val v : Nat) : Int) := by rw [Int.natCast_mul]
    rw [hc] at t4
    have hlt : val R < q * val v := by omega
    have hq1 : val R / val v < q := (Nat.div_lt_iff_lt_mul hV).2 hlt
    have hq2 : q - 1 ≤ val R / val v := (Nat.le_div_iff_mul_le hV).2 h2
    have hqe : q = val R / val v + 1 := by omega
    obtain ⟨a1, a2, co, a3, a4, a5⟩ := adl_val v T 0 hlv t1 (by omega) (by omega) (by omega)
    have a6 := val_lt a1
    rw [a2, t2] at a6
    rw [t2, hpow, Int.zero_add] at a5
    have hqv : q * val v = val v * (val R / val v) + val v := by rw [hqe, Nat.add_mul, Nat.one_mul, Nat.mul_comm]
    have hvp : val v < 4294967296 ^ R.length := Nat.lt_of_lt_of_le hvlt (Nat.pow_le_pow_right (by omega) (by omega))
    generalize 4294967296 ^ R.length = BP at *
    have hco : co = 1 := by
      rcases (show co = 0 ∨ co = 1 by omega) with h | h
      · rw [h, Int.mul_zero] at a5; omega
      · exact h
    rw [hco, Int.mul_one] at a5
    refine ⟨adl 0 T v, hf _ (take_l0 hlv _ p.length (by omega) ⟨by omega, by omega⟩ tl v 0 p R 0 0 rfl (by omega) (by omega) hl hlR (by omega) (by omega) (by omega) (by omega) _ (fun h => by rw [hb] at h; cases h) (fun _ => ?_)), a1, by rw [a2, t2], by omega⟩
    rw [hT]
    have h := take_l1 hlv (q : Int) p.length (by omega) ⟨by omega, by omega⟩ tl v 0 p T 0 rfl (by omega) (by omega) (by omega) t1 (by omega) (by omega)
    rw [show ((q : Int) - 1) = ((val R / val v : Nat) : Int) by omega] at h
    exact h
end Go.Proofs.Ytaclkccgjpjdjaa.Nt
end
section
/- The nat functions as they are printed tell the numbers that they should: Div. -/
namespace Go.Proofs.Ytaclkccgjpjdjaa.Nt
open Go.RowKit Go.Proofs.YtaclkccgjpjdjaaW.PrintWords Go.Proofs.YtaclkccgjpjdjaaW.PrintMore Go.Proofs.Ytaclkccgjpjdjaa.N
set_option linter.unusedVariables false
set_option linter.unusedSimpArgs false
theorem snoc_of {l : List Int} {n : Nat} (h : l.length = n + 1) : ∃ r x, l = r ++ [x] ∧ r.length = n := by
  refine ⟨l.dropLast, l.getLast (by intro e; rw [e] at h; simp at h), (List.dropLast_concat_getLast _).symm, by simp; omega⟩
theorem val_snoc (r : List Int) (x : Int) : val (r ++ [x]) = val r + 4294967296 ^ r.length * x.toNat := by rw [val_append]; simp [val_cons, val_nil]
theorem last_zero {r : List Int} {x : Int} (hx : 0 ≤ x) (h : val (r ++ [x]) < 4294967296 ^ r.length) : x = 0 := by
  rw [val_snoc] at h
  by_cases e : x.toNat = 0
  · omega
  · have := Nat.mul_le_mul_left (4294967296 ^ r.length) (show 1 ≤ x.toNat by omega)
    omega
theorem div_step {v vr : List Int} {v2 v1 : Int} {x1 : List Int} {by_ : Nat} (hv : v = vr ++ [v2, v1]) (hlv : lim v) (hv1 : 2147483648 ≤ v1) (hV : 0 < val v)
    (p R tl qs : List Int) (hlp : lim p) (hlR : lim R) (hlt : lim tl) (hRl : R.length = v.length + 1) (hRV : val R < val v * 4294967296) (hbig : p.length + R.length + tl.length + qs.length < 35184372088800) :
    ∃ R0 : List Int, lim R0 ∧ R0.length = v.length ∧ val R0 = val R % val v ∧
      ∀ X, Ev (fun k => nat_Div.l0 k x1 (by_ : Int) (p ++ (R0 ++ 0 :: tl)) v (List.replicate p.length 0 ++ ((val R / val v : Nat) : Int) :: qs) ((p.length : Int) - 1)) X →
        Ev (fun k => nat_Div.l0 k x1 (by_ : Int) (p ++ (R ++ tl)) v (List.replicate (p.length + 1) 0 ++ qs) (p.length : Int)) X := by
  have hvl : v.length = vr.length + 2 := by rw [hv]; simp
  have hvlt := val_lt hlv
  obtain ⟨R1, u0, e1, l1⟩ := snoc_of (n := vr.length + 2) (by omega : R.length = vr.length + 2 + 1)
  obtain ⟨R2, u1, e2, l2⟩ := snoc_of (n := vr.length + 1) (by omega : R1.length = vr.length + 1 + 1)
  obtain ⟨ur, u2, e3, l3⟩ := snoc_of (n := vr.length) l2
  have eR : R = ur ++ [u2, u1, u0] := by rw [e1, e2, e3]; simp
  obtain ⟨q, g1, g2, g3, g4⟩ := guess_ev (p := p) (ur := ur) (vr := vr) (tl := tl) (u0 := u0) (u1 := u1) (u2 := u2) (u := p ++ (R ++ tl)) (v := v) (by rw [eR]; simp) hv l3 (lim_append.2 ⟨hlp, lim_append.2 ⟨hlR, hlt⟩⟩) hlv hv1 (by rw [← eR]; exact hRV) (by simp; omega)
  rw [← eR] at g3 g4
  obtain ⟨R', t1, t2, t3, t4⟩ := take_ev (p := p) (R := R) (tl := tl) hlv hlR hRl (by omega) hV g2 g3 g4
  obtain ⟨R0, z, e4, l4⟩ := snoc_of (n := v.length) (by omega : R'.length = v.length + 1)
  have hz : z = 0 := by
    have hz0 := (t2 z (by rw [e4]; simp)).1
    refine last_zero hz0 (r := R0) ?_
    rw [← e4, t4, l4]
    exact Nat.lt_trans (Nat.mod_lt _ hV) hvlt
  subst hz
  refine ⟨R0, (lim_append.1 (e4 ▸ t2)).1, l4, by rw [← t4, e4, val_snoc_zero], fun X h => ?_⟩
  refine Ev.step (f := fun k => (nat_guess.f k (p ++ (R ++ tl)) v (p.length : Int)).bind fun t => (nat_take.f k (p ++ (R ++ tl)) v (p.length : Int) t).bind fun b => nat_Div.l0 k x1 (by_ : Int) b.2 v (List.replicate p.length 0 ++ b.1 :: qs) ((p.length : Int) - 1)) (fun k => ?_) (Ev.bind g1 (Ev.bind t1 ?_))
  · simp only [nat_Div.l0]
    rw [if_pos (by omega)]
    congr 1; funext t; congr 1; funext b
    rw [if_pos (by omega), if_pos (by simp; omega), w64 (by omega) (by omega), show List.replicate (p.length + 1) (0 : Int) ++ qs = List.replicate p.length 0 ++ 0 :: qs by rw [List.replicate_succ']; simp, set_app _ _ _ _ _ (by simp)]
  · have e5 : p ++ (R' ++ tl) = p ++ (R0 ++ 0 :: tl) := by rw [e4]; simp
    simp only [e5]
    exact h
theorem div_l0 {v vr : List Int} {v2 v1 : Int} {x1 : List Int} {by_ : Nat} (hv : v = vr ++ [v2, v1]) (hlv : lim v) (hv1 : 2147483648 ≤ v1) (hx1 : x1.length = v.length) (hby : by_ ≤ 31) (hV : 0 < val v) :
    ∀ (pr R tl qs : List Int), lim pr → lim R → lim tl → lim qs → R.length = v.length + 1 → val R < val v * 4294967296 → 2 * pr.length + R.length + tl.length + qs.length < 35184372088800 →
    ∃ dg : List Int, lim dg ∧ dg.length = pr.length + 1 ∧ val dg = val (pr.reverse ++ R) / val v ∧
      Ev (fun k => nat_Div.l0 k x1 (by_ : Int) (pr.reverse ++ (R ++ tl)) v (List.replicate (pr.length + 1) 0 ++ qs) (pr.length : Int)) (ofN (val (dg ++ qs)), ofN (val (pr.reverse ++ R) % val v / 2 ^ by_), 0) := by
  intro pr
  induction pr with
  | nil =>
    intro R tl qs hlp hlR hlt hlq hRl hRV hbig
    obtain ⟨R0, h1, h2, h3, h4⟩ := div_step (x1 := x1) (by_ := by_) hv hlv hv1 hV [] R tl qs hlp hlR hlt hRl hRV hbig
    have hd : val R / val v < 4294967296 := (Nat.div_lt_iff_lt_mul hV).2 (by rw [Nat.mul_comm]; exact hRV)
    simp only [List.length_nil] at hbig
    generalize hdd : val R / val v = d at *
    have hld : lim ((d : Int) :: qs) := lim_cons.2 ⟨by omega, hlq⟩
    refine ⟨[(d : Int)], lim_cons.2 ⟨(lim_cons.1 hld).1, lim_nil⟩, rfl, by rw [List.reverse_nil, List.nil_append, hdd, val_cons, val_nil]; omega, h4 _ ?_⟩
    have hr := right_ev (a := R0) (by_ := (by_ : Int)) h1 (by omega) (by omega) (by omega)
    rw [Int.toNat_natCast, h3] at hr
    have hc := cut_ev hld (by simp; omega)
    refine Ev.step (f := fun k => (nat_cut.f k ((d : Int) :: qs)).bind fun t => (nat_right.f k R0 (by_ : Int)).bind fun s => some (t, s, 0)) (fun k => ?_) (Ev.bind hc (Ev.bind hr (Ev.now _)))
    simp only [nat_Div.l0]
    rw [if_neg (by simp), show List.replicate ([] : List Int).length (0 : Int) ++ (d : Int) :: qs = (d : Int) :: qs by simp]
    congr 1; funext t
    rw [if_pos (by omega), if_pos (by simp; omega), Int.toNat_natCast, hx1, ← h2, List.nil_append, List.take_left]
  | cons x pr ih =>
    intro R tl qs hlp hlR hlt hlq hRl hRV hbig
    obtain ⟨hx, hlp'⟩ := lim_cons.1 hlp
    have hlrev : lim (x :: pr).reverse := fun z hz => hlp z (by rw [List.mem_reverse] at hz; exact hz)
    have hd : val R / val v < 4294967296 := (Nat.div_lt_iff_lt_mul hV).2 (by rw [Nat.mul_comm]; exact hRV)
    have hdm := Nat.div_add_mod (val R) (val v)
    obtain ⟨R0, h1, h2, h3, h4⟩ := div_step (x1 := x1) (by_ := by_) hv hlv hv1 hV (x :: pr).reverse R tl qs hlrev hlR hlt hRl hRV (by simp only [List.length_reverse]; omega)
    have hml := Nat.mod_lt (val R) hV
    simp only [List.length_cons] at hbig
    generalize hdd : val R / val v = d at *
    obtain ⟨dg, i1, i2, i3, i4⟩ := ih (x :: R0) (0 :: tl) ((d : Int) :: qs) hlp' (lim_cons.2 ⟨hx, h1⟩) (lim_cons.2 ⟨⟨by decide, by decide⟩, hlt⟩) (lim_cons.2 ⟨by omega, hlq⟩) (by simp [h2]) (by rw [val_cons, h3]; omega) (by simp only [List.length_cons]; omega)
    have eW : val ((x :: pr).reverse ++ R) = val (pr.reverse ++ x :: R0) + 4294967296 ^ (pr.length + 1) * d * val v := by
      have ea : pr.reverse ++ x :: R0 = (x :: pr).reverse ++ R0 := by simp
      rw [ea, val_append, val_append, List.length_reverse, List.length_cons, h3, ← hdm]
      generalize 4294967296 ^ (pr.length + 1) = P
      grind
    simp only [List.length_reverse] at h4
    refine ⟨dg ++ [(d : Int)], lim_append.2 ⟨i1, lim_cons.2 ⟨by omega, lim_nil⟩⟩, by simp [i2], ?_, h4 _ ?_⟩
    · rw [eW, Nat.add_mul_div_right _ _ hV, val_snoc, i3, i2, Int.toNat_natCast]
    · rw [eW, Nat.add_mul_mod_self_right]
      simp only [List.length_cons]
      rw [List.append_assoc]
      have e6 : ((pr.length + 1 : Nat) : Int) - 1 = (pr.length : Int) := by omega
      have e7 : (x :: pr).reverse ++ (R0 ++ 0 :: tl) = pr.reverse ++ (x :: R0 ++ 0 :: tl) := by simp
      simp only [e6, e7]
      exact i4
theorem pow_le_of_len {n : Nat} (h : n ≠ 0) : 4294967296 ^ ((ofN n).length - 1) ≤ n := by
  apply Nat.le_of_not_lt
  intro hc
  have := len_ofN_le hc
  have hne : (ofN n).length ≠ 0 := fun e => h (ofN_nil.1 (List.eq_nil_of_length_eq_zero e))
  omega
theorem last_ofN {n : Nat} {r : List Int} {y : Int} (h : ofN n = r ++ [y]) : 0 < y ∧ y < 4294967296 ∧ lim r ∧ n = val r + 4294967296 ^ r.length * y.toNat := by
  have hl := lim_ofN n
  rw [h] at hl
  obtain ⟨h1, h2⟩ := lim_append.1 hl
  have hy := h2 y (by simp)
  have e : n = val r + 4294967296 ^ r.length * y.toNat := by rw [← val_snoc, ← h, val_ofN]
  refine ⟨?_, hy.2, h1, e⟩
  have hn : n ≠ 0 := fun e => by rw [e, ofN_zero] at h; simp at h
  have hp := pow_le_of_len hn
  rw [h, List.length_append, List.length_singleton, Nat.add_sub_cancel] at hp
  have := val_lt h1
  by_cases e0 : y.toNat = 0
  · rw [e0] at e; omega
  · omega
theorem div_big {a b : Nat} (hba : b ≤ a) {r : List Int} {y : Int} (hb : ofN b = r ++ [y]) (hr : 1 ≤ r.length) (hbig : (ofN a).length < 35184372088000) :
    ∃ by_ : Nat, by_ ≤ 31 ∧ bits_LeadingZeros32.f y = some (by_ : Int) ∧ ∃ vr v2 v1, (leftl (2 ^ by_) 0 (ofN b)).take (ofN b).length = vr ++ [v2, v1] ∧ vr.length + 2 = (ofN b).length ∧ lim (vr ++ [v2, v1]) ∧ 2147483648 ≤ v1 ∧ val (vr ++ [v2, v1]) = b * 2 ^ by_ ∧
      ∃ p R, leftl (2 ^ by_) 0 (ofN a) = p ++ R ∧ p.length + (ofN b).length = (ofN a).length ∧ lim p ∧ lim R ∧ R.length = (ofN b).length + 1 ∧ val (p ++ R) = a * 2 ^ by_ ∧ val R < b * 2 ^ by_ * 4294967296 := by
  obtain ⟨y0, y1, hlr, eb⟩ := last_ofN hb
  obtain ⟨by_, z1, z2, z3, z4⟩ := zeros32 y0 y1
  have hbl : (ofN b).length = r.length + 1 := by rw [hb]; simp
  have hab : (ofN b).length ≤ (ofN a).length := len_mono hba
  have hpD : (0 : Int) < 2 ^ by_ := Int.pow_pos (by omega)
  have eD : ((2 : Int) ^ by_) = ((2 ^ by_ : Nat) : Int) := by simp
  have hD31 : 2 ^ by_ ≤ 2 ^ 31 := Nat.pow_le_pow_right (by omega) z2
  have hD31' : 2 ^ by_ ≤ 2147483648 := hD31
  have hDi : (2 : Int) ^ by_ ≤ 4294967296 := by rw [eD]; have := hD31'; generalize 2 ^ by_ = D at *; omega
  have hDM : 2 ^ (32 - by_) * 2 ^ by_ = 4294967296 := by rw [← Nat.pow_add, show 32 - by_ + by_ = 32 by omega]
  obtain ⟨lb1, lb2, lb3⟩ := leftl_val hpD hDi (ofN b) 0 (lim_ofN b) (by omega) hpD
  obtain ⟨la1, la2, la3⟩ := leftl_val hpD hDi (ofN a) 0 (lim_ofN a) (by omega) hpD
  generalize hLb : leftl ((2 : Int) ^ by_) 0 (ofN b) = Lb at *
  generalize hLa : leftl ((2 : Int) ^ by_) 0 (ofN a) = La at *
  rw [val_ofN, Int.zero_add, eD, ← Int.natCast_mul] at lb2 la2
  rw [eD] at z3 z4
  generalize hD : 2 ^ by_ = D at *
  obtain ⟨n, rfl⟩ := Int.eq_ofNat_of_zero_le (show 0 ≤ y by omega)
  rw [← Int.natCast_mul] at z3 z4
  rw [Int.toNat_natCast] at eb
  have lb2' : val Lb = b * D := by omega
  have la2' : val La = a * D := by omega
  have wr := val_lt hlr
  have hD0 : 0 < D := by omega
  have hnM : n + 1 ≤ 2 ^ (32 - by_) := by
    apply Nat.lt_of_mul_lt_mul_right (a := D)
    rw [hDM]; omega
  have hnD : (n + 1) * D ≤ 4294967296 := by rw [← hDM]; exact Nat.mul_le_mul_right _ hnM
  have hbD : b * D < 4294967296 ^ (r.length + 1) := by
    have h1 : b * D < (4294967296 ^ r.length * (n + 1)) * D := Nat.mul_lt_mul_of_pos_right (by rw [eb, Nat.mul_add]; omega) hD0
    have h2 : 4294967296 ^ r.length * ((n + 1) * D) ≤ 4294967296 ^ r.length * 4294967296 := Nat.mul_le_mul_left _ hnD
    rw [Nat.mul_assoc] at h1
    rw [Nat.pow_succ]; omega
  have hbD2 : 4294967296 ^ r.length * 2147483648 ≤ b * D := by
    have h1 : 4294967296 ^ r.length * n * D ≤ b * D := Nat.mul_le_mul_right _ (by omega)
    have h2 : 4294967296 ^ r.length * 2147483648 ≤ 4294967296 ^ r.length * (n * D) := Nat.mul_le_mul_left _ (by omega)
    rw [Nat.mul_assoc] at h1; omega
  obtain ⟨V0, z, eV, lV⟩ := snoc_of (n := (ofN b).length) lb3
  have hz : z = 0 := by
    refine last_zero (lb1 z (by rw [eV]; simp)).1 (r := V0) ?_
    rw [← eV, lb2', lV, hbl]; exact hbD
  subst hz
  have eVt : Lb.take (ofN b).length = V0 := by rw [eV, ← lV, List.take_left]
  have hlV0 : lim V0 := (lim_append.1 (eV ▸ lb1)).1
  have vV0 : val V0 = b * D := by rw [← lb2', eV, val_snoc_zero]
  obtain ⟨V1, v1, eV1, lV1⟩ := snoc_of (n := r.length) (by omega : V0.length = r.length + 1)
  obtain ⟨vr, v2, eV2, lV2⟩ := snoc_of (n := r.length - 1) (by omega : V1.length = r.length - 1 + 1)
  have eV3 : V0 = vr ++ [v2, v1] := by rw [eV1, eV2]; simp
  have hv1 : 2147483648 ≤ v1 := by
    have hl1 := hlV0 v1 (by rw [eV1]; simp)
    have hl2 := val_lt ((lim_append.1 (eV1 ▸ hlV0)).1)
    have h1 : val V1 + 4294967296 ^ r.length * v1.toNat = b * D := by rw [← lV1, ← val_snoc, ← eV1, vV0]
    rw [lV1] at hl2
    have h2 : 4294967296 ^ r.length * 2147483648 < 4294967296 ^ r.length * (v1.toNat + 1) := by rw [Nat.mul_add]; omega
    have := Nat.lt_of_mul_lt_mul_left h2
    omega
  refine ⟨by_, z2, z1, vr, v2, v1, by rw [hLb, eVt, eV3], by omega, eV3 ▸ hlV0, hv1, by rw [← eV3, vV0, hD], La.take ((ofN a).length - (ofN b).length), La.drop ((ofN a).length - (ofN b).length), by rw [hLa, List.take_append_drop], by rw [List.length_take]; omega, lim_take la1 _, lim_drop la1 _, by rw [List.length_drop]; omega, by rw [List.take_append_drop, la2', hD], ?_⟩
  rw [hD]
  have h1 : val (La.take ((ofN a).length - (ofN b).length)) + 4294967296 ^ ((ofN a).length - (ofN b).length) * val (La.drop ((ofN a).length - (ofN b).length)) = a * D := by
    rw [← la2', show val La = val (La.take ((ofN a).length - (ofN b).length) ++ La.drop ((ofN a).length - (ofN b).length)) by rw [List.take_append_drop], val_append, List.length_take, show min ((ofN a).length - (ofN b).length) La.length = (ofN a).length - (ofN b).length by omega]
  apply Nat.lt_of_not_le
  intro hc
  have h2 := lt_len_ofN a
  have h3 : a * D < 4294967296 ^ (ofN a).length * D := Nat.mul_lt_mul_of_pos_right h2 hD0
  have h4 : 4294967296 ^ (ofN a).length * D ≤ 4294967296 ^ (ofN a).length * 2147483648 := Nat.mul_le_mul_left _ hD31'
  have h5 : 4294967296 ^ ((ofN a).length - (ofN b).length) * (b * D * 4294967296) ≤ 4294967296 ^ ((ofN a).length - (ofN b).length) * val (La.drop ((ofN a).length - (ofN b).length)) := Nat.mul_le_mul_left _ hc
  have h6 : 4294967296 ^ ((ofN a).length - (ofN b).length) * (4294967296 ^ r.length * 2147483648 * 4294967296) ≤ 4294967296 ^ ((ofN a).length - (ofN b).length) * (b * D * 4294967296) := Nat.mul_le_mul_left _ (Nat.mul_le_mul_right _ hbD2)
  have h7 : 4294967296 ^ ((ofN a).length - (ofN b).length) * (4294967296 ^ r.length * 2147483648 * 4294967296) = 4294967296 ^ (ofN a).length * 2147483648 := by
    rw [show (ofN a).length = ((ofN a).length - (ofN b).length) + (r.length + 1) by omega, Nat.pow_add, Nat.pow_succ, show ((ofN a).length - (ofN b).length) + (r.length + 1) - (ofN b).length = (ofN a).length - (ofN b).length by omega]
    generalize 4294967296 ^ ((ofN a).length - (ofN b).length) = X
    generalize 4294967296 ^ r.length = Y
    grind
  omega
theorem div_ev {a b : List Int} (ha : lim a) (hb : lim b) (hl : a.length ≤ 8796093022208) (hm : b.length ≤ 8796093022208) :
    Ev (fun k => nat_Div.f k a b) (if val b = 0 then ([], [], 3) else (ofN (val a / val b), ofN (val a % val b), 0)) := by
  unfold nat_Div.f
  refine Ev.bind (cut_ev ha (by omega)) (Ev.bind (cut_ev hb (by omega)) ?_)
  have h1 := len_cut ha
  have h2 := len_cut hb
  generalize val a = A at *
  generalize val b = B at *
  by_cases hB : B = 0
  · rw [if_pos hB]
    refine Ev.congr (f := fun _ => some ([], [], 3)) (fun k => if_pos (by rw [hB, ofN_zero]; rfl)) (Ev.now _)
  · have hBl : (ofN B).length ≠ 0 := fun e => hB (ofN_nil.1 (List.eq_nil_of_length_eq_zero e))
    rw [if_neg hB]
    refine Ev.congr (f := fun k => _) (fun k => if_neg (by omega)) ?_
    have hcmp := cmp_ev (lim_ofN A) (lim_ofN B) (by omega) (by omega)
    rw [val_ofN, val_ofN] at hcmp
    by_cases hlt : A < B
    · rw [if_pos hlt] at hcmp
      refine Ev.bind hcmp (Ev.congr (f := fun _ => some ([], ofN A, 0)) (fun k => ?_) ?_)
      · rw [if_pos (by decide), clone_some (by omega)]; rfl
      · rw [Nat.div_eq_of_lt hlt, Nat.mod_eq_of_lt hlt, ofN_zero]; exact Ev.now _
    · have hge : ¬ ((if B < A then (1 : Int) else 0) < 0) := by split <;> decide
      rw [if_neg hlt] at hcmp
      refine Ev.bind hcmp ?_
      refine Ev.congr (f := fun k => _) (fun k => if_neg hge) ?_
      obtain ⟨r, y, e, lr⟩ := snoc_of (n := (ofN B).length - 1) (l := ofN B) (by omega)
      obtain ⟨y0, y1, hlr, eB⟩ := last_ofN e
      by_cases hone : (ofN B).length = 1
      · refine Ev.congr (f := fun k => _) (fun k => if_pos (by omega)) ?_
        refine Ev.congr (f := fun k => _) (fun k => if_pos (by omega)) ?_
        obtain rfl : r = [] := List.eq_nil_of_length_eq_zero (by omega)
        have ey : rd (ofN B) 0 = y := by rw [e]; exact rd_app [] y [] 0 rfl
        have eBy : B = y.toNat := by rw [eB]; simp [val_nil]
        have hs := small_ev (lim_ofN A) y0 y1 (by omega)
        rw [val_ofN, ← eBy] at hs
        rw [ey]
        refine Ev.bind hs ?_
        have hmod : A % B < 4294967296 := Nat.lt_of_lt_of_le (Nat.mod_lt _ (by omega)) (by omega)
        have hc := cut_ev (a := [((A % B : Nat) : Int)]) (lim_cons.2 ⟨by generalize A % B = m at *; omega, lim_nil⟩) (by simp)
        rw [val_cons, val_nil, Int.toNat_natCast, Nat.mul_zero, Nat.add_zero] at hc
        exact Ev.bind hc (Ev.now _)
      · refine Ev.congr (f := fun k => _) (fun k => if_neg (by omega)) ?_
        obtain ⟨by_, b1, b2, vr, v2, v1, c1, c2, c3, c4, c5, p, R, d1, d2, d3, d4, d5, d6, d7⟩ := div_big (by omega : B ≤ A) e (by omega) (by omega)
        have ey : rd (ofN B) (((ofN B).length : Int) - 1) = y := by
          have hlen : (ofN B).length = r.length + 1 := by omega
          rw [hlen, e]; exact rd_app r y [] _ (by omega)
        rw [w64 (x := ((ofN B).length : Int) - 1) (by omega) (by omega), ey, b2]
        refine Ev.congr (f := fun k => _) (fun k => if_pos (by omega)) ?_
        refine Ev.congr (f := fun k => _) (fun k => if_pos (by omega)) ?_
        simp only [Option.bind_some]
        have hla := left_ev (a := ofN A) (by_ := (by_ : Int)) (lim_ofN A) (by omega) (by omega) (by omega)
        have hlb := left_ev (a := ofN B) (by_ := (by_ : Int)) (lim_ofN B) (by omega) (by omega) (by omega)
        rw [Int.toNat_natCast] at hla hlb
        refine Ev.bind hla (Ev.bind hlb ?_)
        have hlbl : (leftl ((2 : Int) ^ by_) 0 (ofN B)).length = (ofN B).length + 1 := by
          have hpD : (0 : Int) < 2 ^ by_ := Int.pow_pos (by omega)
          have h31 : (2 : Nat) ^ by_ ≤ 2 ^ 31 := Nat.pow_le_pow_right (by omega) b1
          have eD : ((2 : Int) ^ by_) = ((2 ^ by_ : Nat) : Int) := by simp
          have hDi : (2 : Int) ^ by_ ≤ 4294967296 := by rw [eD]; have h31' : 2 ^ by_ ≤ 2147483648 := h31; generalize 2 ^ by_ = D at *; omega
          exact (leftl_val hpD hDi (ofN B) 0 (lim_ofN B) (by omega) hpD).2.2
        refine Ev.congr (f := fun k => _) (fun k => if_pos (by omega)) ?_
        refine Ev.congr (f := fun k => _) (fun k => if_pos (by omega)) ?_
        rw [w64 (x := ((ofN A).length : Int) - ((ofN B).length : Int)) (by omega) (by omega), w64 (x := ((ofN A).length : Int) - ((ofN B).length : Int) + 1) (by omega) (by omega)]
        refine Ev.congr (f := fun k => _) (fun k => if_pos (by omega)) ?_
        refine Ev.congr (f := fun k => _) (fun k => if_pos (by omega)) ?_
        have ep : (((ofN A).length : Int) - ((ofN B).length : Int) + 1).toNat = p.length + 1 := by omega
        rw [ep, List.length_replicate, w64 (x := ((p.length + 1 : Nat) : Int) - 1) (by omega) (by omega), show ((p.length + 1 : Nat) : Int) - 1 = (p.length : Int) by omega, d1, Int.toNat_natCast, c1]
        have hBp : 0 < B * 2 ^ by_ := Nat.mul_pos (by omega) (Nat.pow_pos (by omega))
        obtain ⟨dg, g1, g2, g3, g4⟩ := div_l0 (v := vr ++ [v2, v1]) (x1 := ofN B) (by_ := by_) rfl c3 c4 (by simp; omega) b1 (by rw [c5]; exact hBp) p.reverse R [] [] (fun z hz => d3 z (by rw [List.mem_reverse] at hz; exact hz)) d4 lim_nil lim_nil (by simp; omega) (by rw [c5]; exact d7) (by simp; omega)
        rw [List.reverse_reverse, List.length_reverse, List.append_nil, List.append_nil, List.append_nil, c5, d6, g3, List.reverse_reverse, d6, c5, Nat.mul_div_mul_right _ _ (Nat.pow_pos (by omega)), Nat.mul_mod_mul_right, Nat.mul_div_cancel _ (Nat.pow_pos (by omega))] at g4
        exact g4
end Go.Proofs.Ytaclkccgjpjdjaa.Nt
end
section
/- The nat functions as they are printed tell the numbers that they should: Print. -/
namespace Go.Proofs.Ytaclkccgjpjdjaa.Nt
open Go.RowKit Go.Proofs.YtaclkccgjpjdjaaW.PrintWords Go.Proofs.YtaclkccgjpjdjaaW.PrintMore Go.Proofs.Ytaclkccgjpjdjaa.N
set_option linter.unusedVariables false
set_option linter.unusedSimpArgs false
def lowF : Nat → Nat → List Int
  | 0, _ => []
  | k + 1, n => if n = 0 then [] else (48 + ((n % 10 : Nat) : Int)) :: lowF k (n / 10)
def low (n : Nat) : List Int := lowF n n
theorem lowF_eq : ∀ (k m n : Nat), n ≤ k → n ≤ m → lowF k n = lowF m n
  | 0, m, n, h, _ => by obtain rfl : n = 0 := by omega
                        cases m <;> simp [lowF]
  | k + 1, 0, n, _, h => by obtain rfl : n = 0 := by omega
                            simp [lowF]
  | k + 1, m + 1, n, h, h' => by
    by_cases e : n = 0
    · subst e; simp [lowF]
    · simp only [lowF, if_neg e]; rw [lowF_eq k m (n / 10) (by omega) (by omega)]
theorem low_zero : low 0 = [] := rfl
theorem low_pos {n : Nat} (h : n ≠ 0) : low n = (48 + ((n % 10 : Nat) : Int)) :: low (n / 10) := by
  unfold low
  obtain ⟨k, rfl⟩ : ∃ k, n = k + 1 := ⟨n - 1, by omega⟩
  simp only [lowF, if_neg h]
  rw [lowF_eq k ((k + 1) / 10) _ (by omega) (by omega)]
theorem low_len : ∀ (k n : Nat), n < 10 ^ k → (low n).length ≤ k
  | 0, n, h => by obtain rfl : n = 0 := by simpa using h
                  exact Nat.le_refl _
  | k + 1, n, h => by
    by_cases e : n = 0
    · subst e; exact Nat.zero_le _
    · rw [low_pos e, List.length_cons]
      have := low_len k (n / 10) (by rw [Nat.pow_succ] at h; omega)
      omega
theorem low_ofN (n : Nat) : (low n).length ≤ 10 * (ofN n).length := by
  apply low_len
  have h := lt_len_ofN n
  have h2 : 4294967296 ^ (ofN n).length ≤ 10 ^ (10 * (ofN n).length) := by
    rw [Nat.pow_mul]; exact Nat.pow_le_pow_left (by decide) _
  omega
def told (out : List Int) : ByteArray := if out = [] then ⟨#[48]⟩ else strOfNums out.reverse
def text (n : Nat) : ByteArray := told (low n)
theorem rev_l0 : ∀ (d : Nat) (m p s : List Int), m.length ≤ d → p.length + m.length + s.length < 4000000000000000000 →
    Ev (fun k => slices_Reverse_byte_byte.l0 k (p ++ (m ++ s)) (p.length : Int) ((p.length : Int) + (m.length : Int) - 1)) (p ++ (m.reverse ++ s)) := by
  intro d
  induction d using Nat.strongRecOn with
  | _ d ih =>
    intro m p s hd hb
    cases m with
    | nil =>
      refine Ev.step (f := fun _ => some (p ++ ([] ++ s))) (fun k => ?_) (by simpa using Ev.now _)
      simp only [slices_Reverse_byte_byte.l0]; rw [if_neg (by simp; omega)]
    | cons x m =>
      rcases Nat.eq_zero_or_pos m.length with h0 | h0
      · obtain rfl : m = [] := List.eq_nil_of_length_eq_zero h0
        refine Ev.step (f := fun _ => some (p ++ ([x] ++ s))) (fun k => ?_) (by simpa using Ev.now _)
        simp only [slices_Reverse_byte_byte.l0]; rw [if_neg (by simp)]
      · obtain ⟨m, y, rfl⟩ : ∃ m' y, m = m' ++ [y] := ⟨m.dropLast, m.getLast (by intro e; rw [e] at h0; simp at h0), (List.dropLast_concat_getLast _).symm⟩
        simp only [List.length_cons, List.length_append, List.length_nil] at hd hb h0 ⊢
        have h := ih m.length (by omega) m (p ++ [y]) (x :: s) (Nat.le_refl _) (by simp; omega)
        have e1 : rd (p ++ (x :: (m ++ [y]) ++ s)) (p.length : Int) = x := rd_app _ _ _ _ rfl
        have e2 : rd (p ++ (x :: (m ++ [y]) ++ s)) ((p.length : Int) + ((m.length + (0 + 1) + 1 : Nat) : Int) - 1) = y := by
          rw [show p ++ (x :: (m ++ [y]) ++ s) = (p ++ x :: m) ++ y :: s by simp]; exact rd_app _ _ _ _ (by simp; omega)
        refine Ev.step (f := fun k => slices_Reverse_byte_byte.l0 k ((p ++ [y]) ++ (m ++ (x :: s))) ((p ++ [y]).length : Int) (((p ++ [y]).length : Int) + (m.length : Int) - 1)) (fun k => ?_) (by simpa using h)
        simp only [slices_Reverse_byte_byte.l0]
        rw [if_pos (by omega), if_pos (by omega), if_pos (by simp; omega), if_pos (by omega), if_pos (by simp; omega), e1, e2, w64 (by omega) (by omega), w64 (by omega) (by omega),
          show (p ++ (x :: (m ++ [y]) ++ s)).set (p.length : Int).toNat y = p ++ y :: (m ++ [y] ++ s) from set_app _ _ _ _ _ rfl,
          show p ++ y :: (m ++ [y] ++ s) = (p ++ y :: m) ++ y :: s by simp, set_app _ _ _ _ _ (by simp; omega)]
        congr 1
        · simp
        · simp
        · simp; omega
theorem rev_ev {m : List Int} (h : m.length < 4000000000000000000) : Ev (fun k => slices_Reverse_byte_byte.f k m) m.reverse := by
  have h1 := rev_l0 m.length m [] [] (Nat.le_refl _) (by simpa using h)
  unfold slices_Reverse_byte_byte.f
  refine Ev.congr (fun k => ?_) (by simpa using h1)
  rw [w64 (by omega) (by omega)]
theorem print_l (N : Nat) : ∀ n : Nat, n ≤ N → (ofN n).length < 35184372088800 → ∀ out : List Int, out.length + (low n).length < 140737488355328 → Ev (fun k => nat_Print.l0 k (ofN n) out) (told (out ++ low n)) := by
  induction N with
  | zero =>
    intro n hn _ out ho
    obtain rfl : n = 0 := by omega
    rw [low_zero, List.append_nil]
    unfold told
    by_cases e : out = []
    · subst e
      refine Ev.step (f := fun _ => some (⟨#[48]⟩ : ByteArray)) (fun k => ?_) (by rw [if_pos rfl]; exact Ev.now _)
      simp only [nat_Print.l0]; rw [if_neg (by simp [ofN_zero]), if_pos (by simp)]
    · have hl : (out.length : Int) ≠ 0 := by have := List.length_pos_iff.2 e; omega
      refine Ev.step (f := fun k => (slices_Reverse_byte_byte.f k out).bind fun t => some (strOfNums t)) (fun k => ?_) (by rw [if_neg e]; exact Ev.bind (rev_ev (by rw [low_zero] at ho; simp at ho; omega)) (Ev.now _))
      simp only [nat_Print.l0]; rw [if_neg (by simp [ofN_zero]), if_neg hl]
  | succ N ih =>
    intro n hn hfit out ho
    by_cases h0 : n = 0
    · subst h0; exact ih 0 (by omega) hfit out ho
    · have key : ∀ (d q r : Nat) (out : List Int), d ≤ 9 → q ≤ N → (ofN q).length < 35184372088800 → r < 10 ^ d → out.length + (low (q * 10 ^ d + r)).length < 140737488355328 → Ev (fun k => nat_Print.l1 k out (ofN q) (r : Int) (9 - (d : Int))) (told (out ++ low (q * 10 ^ d + r))) := by
        intro d
        induction d with
        | zero =>
          intro q r out hd hq hqf hr hol
          obtain rfl : r = 0 := by simpa using hr
          have e : q * 10 ^ 0 + 0 = q := by omega
          rw [e] at hol ⊢
          refine Ev.step (f := fun k => nat_Print.l0 k (ofN q) out) (fun k => ?_) (ih q hq hqf out hol)
          simp only [nat_Print.l1]; rw [if_neg (by omega)]
        | succ d ihd =>
          intro q r out hd hq hqf hr hol
          by_cases hz : q = 0 ∧ r = 0
          · obtain ⟨rfl, rfl⟩ := hz
            have e : 0 * 10 ^ (d + 1) + 0 = 0 := by omega
            rw [e] at hol ⊢
            refine Ev.step (f := fun k => nat_Print.l0 k (ofN 0) out) (fun k => ?_) (ih 0 (by omega) hqf out hol)
            simp only [nat_Print.l1]; rw [if_pos (by omega), if_neg (by simp [ofN_zero]), if_neg (by omega)]
          · have hr2 : r < 1000000000 := Nat.lt_of_lt_of_le hr (Nat.le_trans (Nat.pow_le_pow_right (by omega) hd) (by decide))
            have hne : q * 10 ^ (d + 1) + r ≠ 0 := by
              intro e
              apply hz
              have hp : 0 < 10 ^ (d + 1) := Nat.pow_pos (by omega)
              have : q * 10 ^ (d + 1) = 0 := by omega
              rcases Nat.mul_eq_zero.1 this with h | h
              · exact ⟨h, by omega⟩
              · omega
            have e10 : q * 10 ^ (d + 1) = 10 * (q * 10 ^ d) := by rw [Nat.pow_succ]; grind
            have em : (q * 10 ^ (d + 1) + r) % 10 = r % 10 := by rw [e10]; omega
            have ed : (q * 10 ^ (d + 1) + r) / 10 = q * 10 ^ d + r / 10 := by rw [e10]; omega
            have el := low_pos hne
            rw [em, ed] at el
            rw [el] at hol ⊢
            simp only [List.length_cons] at hol
            have h := ihd q (r / 10) (out ++ [48 + ((r % 10 : Nat) : Int)]) (by omega) hq hqf (by rw [Nat.pow_succ] at hr; omega) (by simp; omega)
            rw [List.append_assoc, List.singleton_append] at h
            have hstep : ∀ k, nat_Print.l1 (k + 1) out (ofN q) (r : Int) (9 - ((d + 1 : Nat) : Int)) = nat_Print.l1 k (out ++ [48 + ((r % 10 : Nat) : Int)]) (ofN q) ((r / 10 : Nat) : Int) (9 - (d : Int)) := by
              intro k
              have ex : (48 + Int.tmod (r : Int) 10) % 256 = 48 + ((r % 10 : Nat) : Int) := by rw [Int.tmod_eq_emod_of_nonneg (by omega)]; omega
              have ey : Int.tdiv (r : Int) 10 % 4294967296 = ((r / 10 : Nat) : Int) := by rw [Int.tdiv_eq_ediv_of_nonneg (by omega)]; omega
              simp only [nat_Print.l1]
              rw [if_pos (by omega), ex, ey, w64 (by omega) (by omega), show 9 - ((d + 1 : Nat) : Int) + 1 = 9 - (d : Int) by omega]
              by_cases hq0 : q = 0
              · subst hq0
                rw [if_neg (by simp [ofN_zero]), if_pos (by omega), if_pos (by omega)]
              · have : 0 < (ofN q).length := List.length_pos_iff.2 (fun e => hq0 (ofN_nil.1 e))
                rw [if_pos (by omega), if_pos (by omega)]
            exact Ev.step hstep h
      have hs := small_ev (b := 1000000000) (lim_ofN n) (by omega) (by omega) hfit
      rw [val_ofN, show (1000000000 : Int).toNat = 1000000000 from rfl] at hs
      have hk := key 9 (n / 1000000000) (n % 1000000000) out (Nat.le_refl _) (by omega) (Nat.lt_of_le_of_lt (len_mono (Nat.div_le_self _ _)) hfit) (Nat.mod_lt _ (by decide)) (by rw [show n / 1000000000 * 10 ^ 9 + n % 1000000000 = n by omega]; exact ho)
      rw [show n / 1000000000 * 10 ^ 9 + n % 1000000000 = n by omega] at hk
      have hl : 0 < (ofN n).length := List.length_pos_iff.2 (fun e => h0 (ofN_nil.1 e))
      refine Ev.step (f := fun k => (nat_small.f k (ofN n) 1000000000).bind fun b => nat_Print.l1 k out b.1 b.2 0) (fun k => ?_) (Ev.bind hs hk)
      simp only [nat_Print.l0]; rw [if_pos (by omega)]
theorem print_ev {a : List Int} (ha : lim a) (hl : a.length ≤ 8796093022208) : Ev (fun k => nat_Print.f k a) (text (val a)) := by
  unfold nat_Print.f
  have h1 := len_val_le ha
  have h2 := low_ofN (val a)
  refine Ev.bind (trim_ev ha (by omega)) ?_
  have h := print_l (val a) (val a) (Nat.le_refl _) (by omega) [] (by simp; omega)
  unfold text
  simpa using h
end Go.Proofs.Ytaclkccgjpjdjaa.Nt
end
section
/- The nat functions as they are printed tell the numbers that they should: Parse. -/
namespace Go.Proofs.Ytaclkccgjpjdjaa.Nt
open Go.RowKit Go.Proofs.YtaclkccgjpjdjaaW.PrintWords Go.Proofs.YtaclkccgjpjdjaaW.PrintMore Go.Proofs.Ytaclkccgjpjdjaa.N
set_option linter.unusedVariables false
set_option linter.unusedSimpArgs false
def numL (l : List Int) (v : Nat) : Nat := l.foldl (fun v c => v * 10 + (c - 48).toNat) v
theorem numL_nil (v : Nat) : numL [] v = v := rfl
theorem numL_cons (c : Int) (l : List Int) (v : Nat) : numL (c :: l) v = numL l (v * 10 + (c - 48).toNat) := rfl
theorem numL_append (l m : List Int) (v : Nat) : numL (l ++ m) v = numL m (numL l v) := by simp [numL]
theorem numL_add (l : List Int) : ∀ v : Nat, numL l v = v * 10 ^ l.length + numL l 0 := by
  induction l with
  | nil => intro v; simp [numL_nil]
  | cons c l ih =>
    intro v
    rw [numL_cons, numL_cons, ih, ih (0 * 10 + _), List.length_cons, Nat.pow_succ]
    grind
def Dig (l : List Int) : Prop := ∀ c ∈ l, 48 ≤ c ∧ c ≤ 57
theorem numL_lt {l : List Int} (h : Dig l) : numL l 0 < 10 ^ l.length := by
  induction l with
  | nil => simp [numL_nil]
  | cons c l ih =>
    have hc := h c (by simp)
    have hl := ih (fun x hx => h x (by simp [hx]))
    rw [numL_cons, numL_add, List.length_cons, Nat.pow_succ]
    have h1 : (0 * 10 + (c - 48).toNat) ≤ 9 := by omega
    have h2 : (0 * 10 + (c - 48).toNat) * 10 ^ l.length ≤ 9 * 10 ^ l.length := Nat.mul_le_mul_right _ h1
    omega
theorem bytesOf_drop (s : ByteArray) (n : Nat) : bytesOf (s.extract n s.size) = (bytesOf s).drop n := by
  unfold bytesOf; rw [Lib.extract_to_end, List.map_drop]
theorem bytesOf_size (s : ByteArray) : s.size = (bytesOf s).length := (bytesOf_length s).symm
theorem parse_l : ∀ (d : Nat) (s : ByteArray) (v : Nat), s.size ≤ d → Dig (bytesOf s) → (ofN v).length + 3 * s.size < 1000000000 →
    Ev (fun k => nat_Parse.l0 k s (ofN v)) (ofN (numL (bytesOf s) v), 0) := by
  intro d
  induction d with
  | zero =>
    intro s v hd _ _
    have hs : bytesOf s = [] := List.eq_nil_of_length_eq_zero (by rw [← bytesOf_size]; omega)
    refine Ev.step (f := fun _ => some (ofN v, 0)) (fun k => ?_) (by rw [hs, numL_nil]; exact Ev.now _)
    simp only [nat_Parse.l0]; rw [if_neg (by omega)]
  | succ d ih =>
    intro s v hd hg hb
    have hsz := bytesOf_size s
    by_cases h0 : s.size = 0
    · exact ih s v (by omega) hg hb
    · generalize hn : min 9 s.size = n
      have hn9 : n ≤ 9 ∧ n ≤ s.size ∧ 1 ≤ n := by omega
      have emn : mn 9 (s.size : Int) = (n : Int) := by unfold mn; split <;> omega
      have key : ∀ (j i : Nat), i + j = n → Ev (fun k => nat_Parse.l1 k s (ofN v) (n : Int) ((numL ((bytesOf s).take i) 0 : Nat) : Int) ((10 ^ i : Nat) : Int) (n : Int) (i : Int)) (ofN (numL (bytesOf s) v), 0) := by
        intro j
        induction j with
        | zero =>
          intro i hi
          obtain rfl : i = n := by omega
          have hdt : Dig ((bytesOf s).take i) := fun c hc => hg c (List.mem_of_mem_take hc)
          have hlt := numL_lt hdt
          have hl9 : ((bytesOf s).take i).length = i := by rw [List.length_take]; omega
          rw [hl9] at hlt
          have hp9 : 10 ^ i ≤ 10 ^ 9 := Nat.pow_le_pow_right (by omega) hn9.1
          have hp9' : 10 ^ i ≤ 1000000000 := hp9
          have hm := mul_ev (a := ofN v) (b := [((10 ^ i : Nat) : Int)]) (lim_ofN v) (lim_cons.2 ⟨by omega, lim_nil⟩) (by simp; omega)
          rw [val_ofN, val_cons, val_nil, Int.toNat_natCast, Nat.mul_zero, Nat.add_zero] at hm
          have hlm := len_mul v (10 ^ i)
          have hl1 : (ofN (10 ^ i)).length ≤ 1 := len_ofN_le (by omega)
          have ha := add_ev (a := ofN (v * 10 ^ i)) (b := [((numL ((bytesOf s).take i) 0 : Nat) : Int)]) (lim_ofN _) (lim_cons.2 ⟨by omega, lim_nil⟩) (by omega) (by simp)
          rw [val_ofN, val_cons, val_nil, Int.toNat_natCast, Nat.mul_zero, Nat.add_zero] at ha
          have hla := len_add (v * 10 ^ i) (numL ((bytesOf s).take i) 0)
          have hl2 : (ofN (numL ((bytesOf s).take i) 0)).length ≤ 1 := len_ofN_le (by omega)
          have hsz2 : (s.extract i s.size).size = s.size - i := by rw [bytesOf_size, bytesOf_drop, List.length_drop]; omega
          have hr := ih (s.extract i s.size) (v * 10 ^ i + numL ((bytesOf s).take i) 0) (by omega) (by rw [bytesOf_drop]; exact fun c hc => hg c (List.mem_of_mem_drop hc)) (by rw [hsz2]; omega)
          have e : numL (bytesOf (s.extract i s.size)) (v * 10 ^ i + numL ((bytesOf s).take i) 0) = numL (bytesOf s) v := by
            have h1 := numL_append ((bytesOf s).take i) ((bytesOf s).drop i) v
            rw [List.take_append_drop] at h1
            rw [h1, numL_add ((bytesOf s).take i) v, hl9, bytesOf_drop]
          rw [e] at hr
          refine Ev.step (f := fun k => (nat_Mul.f k (ofN v) [((10 ^ i : Nat) : Int)]).bind fun t => (nat_Add.f k t [((numL ((bytesOf s).take i) 0 : Nat) : Int)]).bind fun t2 => nat_Parse.l0 k (s.extract i s.size) t2) (fun k => ?_) (Ev.bind hm (Ev.bind ha hr))
          simp only [nat_Parse.l1]
          rw [if_neg (by omega)]
          congr 1; funext t; congr 1; funext t2
          rw [if_pos (by omega), if_pos (by omega), Int.toNat_natCast]
        | succ j ihj =>
          intro i hi
          have hil : i < (bytesOf s).length := by omega
          have hc := hg _ (List.getElem_mem hil)
          have et : (bytesOf s).take (i + 1) = (bytesOf s).take i ++ [(bytesOf s)[i]] := by rw [List.take_succ_eq_append_getElem hil]
          have hdt : Dig ((bytesOf s).take (i + 1)) := fun c hc => hg c (List.mem_of_mem_take hc)
          have hlt := numL_lt hdt
          have hl9 : ((bytesOf s).take (i + 1)).length = i + 1 := by rw [List.length_take]; omega
          rw [hl9] at hlt
          have hp9 : 10 ^ (i + 1) ≤ 10 ^ 9 := Nat.pow_le_pow_right (by omega) (by omega)
          have hp9' : 10 ^ (i + 1) ≤ 1000000000 := hp9
          have h := ihj (i + 1) (by omega)
          have eb : bt s (i : Int) = (bytesOf s)[i] := by rw [← rd_bytesOf]; simp [rd, hil]
          rw [et, numL_append, numL_cons, numL_nil] at h hlt
          generalize (bytesOf s)[i] = c at *
          generalize numL ((bytesOf s).take i) 0 = w at *
          refine Ev.step (fun k => ?_) h
          simp only [nat_Parse.l1]
          rw [if_pos (by omega), if_pos (by omega), if_pos (by omega), eb, w64 (by omega) (by omega)]
          have ep : 10 ^ (i + 1) = 10 ^ i * 10 := Nat.pow_succ ..
          congr 1 <;> omega
      have h := key n 0 (by omega)
      refine Ev.step (fun k => ?_) h
      simp only [nat_Parse.l0]
      rw [if_pos (by omega), emn]
      rfl
def parsed (s : ByteArray) : List Int × Int :=
  if s.size = 0 ∨ (bytesOf s).any slices_ContainsFunc_byte_byte.strange = true then ([], 4) else if s.size > 300 then ([], 2) else (ofN (numL (bytesOf s) 0), 0)
theorem toList_loop (b : ByteArray) : ∀ (n i : Nat) (r : List UInt8), n = b.size - i → ByteArray.toList.loop b i r = r.reverse ++ b.data.toList.drop i := by
  intro n
  induction n with
  | zero =>
    intro i r h
    unfold ByteArray.toList.loop
    rw [if_neg (by omega), List.drop_eq_nil_of_le (by rw [data_length]; omega), List.append_nil]
  | succ n ih =>
    intro i r h
    have hi : i < b.data.toList.length := by rw [data_length]; omega
    unfold ByteArray.toList.loop
    rw [if_pos (by omega), ih (i + 1) _ (by omega), List.drop_eq_getElem_cons hi]
    simp [ByteArray.get!]
    exact getElem!_pos b.data i (by simpa using hi)
theorem toList_eq (b : ByteArray) : b.toList = b.data.toList := by
  unfold ByteArray.toList; rw [toList_loop b (b.size - 0) 0 [] rfl]; simp
theorem toList_nil {b : ByteArray} : b.toList = [] ↔ b.size = 0 := by
  rw [toList_eq, ← data_length]; exact List.length_eq_zero_iff.symm
theorem dig_of {l : List Int} (h : ¬ l.any slices_ContainsFunc_byte_byte.strange = true) : Dig l := by
  intro c hc
  have h2 : slices_ContainsFunc_byte_byte.strange c = false := by
    cases hs : slices_ContainsFunc_byte_byte.strange c with
    | false => rfl
    | true => exact absurd (List.any_eq_true.2 ⟨c, hc, hs⟩) h
  simp only [slices_ContainsFunc_byte_byte.strange, Bool.or_eq_false_iff, decide_eq_false_iff_not] at h2
  omega
theorem parse_ev {s : ByteArray} (h : s.size ≤ 140737488351232) : Ev (fun k => nat_Parse.f k s) (parsed s) := by
  unfold nat_Parse.f parsed
  by_cases h0 : s.size = 0
  · rw [if_pos (Or.inl h0)]
    exact Ev.congr (fun k => by rw [if_pos h, if_pos (toList_nil.2 h0)]) (Ev.now _)
  · have h0' : ¬ s.toList = [] := fun e => h0 (toList_nil.1 e)
    by_cases ha : (bytesOf s).any slices_ContainsFunc_byte_byte.strange = true
    · rw [if_pos (Or.inr ha)]
      exact Ev.congr (fun k => by rw [if_pos h, if_neg h0', if_pos ha]) (Ev.now _)
    · rw [if_neg (fun e => e.elim h0 ha)]
      by_cases h3 : s.size > 300
      · rw [if_pos h3]
        refine Ev.congr (f := fun _ => some ([], 2)) (fun k => ?_) (Ev.now _)
        rw [if_pos h, if_neg h0', if_neg ha]; unfold nat_Parse.g; rw [if_pos (by omega)]
      · rw [if_neg h3]
        have hp := parse_l s.size s 0 (Nat.le_refl _) (dig_of ha) (by rw [ofN_zero]; simp; omega)
        refine Ev.congr (fun k => ?_) hp
        rw [if_pos h, if_neg h0', if_neg ha]; unfold nat_Parse.g; rw [if_neg (by omega)]; rfl
end Go.Proofs.Ytaclkccgjpjdjaa.Nt
end
section
/- The nat functions as they are printed tell the numbers that they should: Sub. -/
namespace Go.Proofs.Ytaclkccgjpjdjaa.Nt
open Go.RowKit Go.Proofs.YtaclkccgjpjdjaaW.PrintWords Go.Proofs.YtaclkccgjpjdjaaW.PrintMore Go.Proofs.Ytaclkccgjpjdjaa.N
set_option linter.unusedVariables false
set_option linter.unusedSimpArgs false
def subl : Int → List Int → List Int → List Int × Int
  | l, [], _ => ([], l)
  | l, x :: a, [] => ((x - l) % 4294967296 :: (subl (if x < l then 1 else 0) a []).1, (subl (if x < l then 1 else 0) a []).2)
  | l, x :: a, y :: b => ((x - (l + y)) % 4294967296 :: (subl (if x < l + y then 1 else 0) a b).1, (subl (if x < l + y then 1 else 0) a b).2)
theorem subl_val : ∀ (a b : List Int) (l : Int), lim a → lim b → 0 ≤ l → l ≤ 1 →
    lim (subl l a b).1 ∧ (subl l a b).1.length = a.length ∧ 0 ≤ (subl l a b).2 ∧ (subl l a b).2 ≤ 1 ∧ (val (subl l a b).1 : Int) - 4294967296 ^ a.length * (subl l a b).2 = val a - l - val (b.take a.length)
  | [], b, l, _, _, h0, h1 => by
    simp only [subl]
    exact ⟨lim_nil, trivial, h0, h1, by simp [val_nil]⟩
  | x :: a, [], l, ha, hb, h0, h1 => by
    obtain ⟨hx, ha'⟩ := lim_cons.1 ha
    generalize hL : (if x < l then (1 : Int) else 0) = L
    have hL2 : (x - l) % 4294967296 = x - l + 4294967296 * L ∧ 0 ≤ L ∧ L ≤ 1 := by subst hL; split <;> omega
    obtain ⟨i1, i2, i3, i4, i5⟩ := subl_val a [] L ha' hb hL2.2.1 hL2.2.2
    simp only [subl]
    rw [hL]
    generalize (subl L a []).1 = T at *
    generalize (subl L a []).2 = D at *
    refine ⟨lim_cons.2 ⟨by omega, i1⟩, by simp [i2], i3, i4, ?_⟩
    rw [List.take_nil, val_nil] at i5 ⊢
    rw [val_cons, val_cons, List.length_cons, Int.pow_succ, Int.mul_comm _ (4294967296 : Int), Int.mul_assoc]
    generalize (4294967296 : Int) ^ a.length * D = X at *
    rw [hL2.1]
    omega
  | x :: a, y :: b, l, ha, hb, h0, h1 => by
    obtain ⟨hx, ha'⟩ := lim_cons.1 ha
    obtain ⟨hy, hb'⟩ := lim_cons.1 hb
    generalize hL : (if x < l + y then (1 : Int) else 0) = L
    have hL2 : (x - (l + y)) % 4294967296 = x - (l + y) + 4294967296 * L ∧ 0 ≤ L ∧ L ≤ 1 := by subst hL; split <;> omega
    obtain ⟨i1, i2, i3, i4, i5⟩ := subl_val a b L ha' hb' hL2.2.1 hL2.2.2
    simp only [subl]
    rw [hL]
    generalize (subl L a b).1 = T at *
    generalize (subl L a b).2 = D at *
    refine ⟨lim_cons.2 ⟨by omega, i1⟩, by simp [i2], i3, i4, ?_⟩
    rw [List.length_cons, List.take_succ_cons, val_cons, val_cons, val_cons, Int.pow_succ, Int.mul_comm _ (4294967296 : Int), Int.mul_assoc]
    generalize (4294967296 : Int) ^ a.length * D = X at *
    generalize val (b.take a.length) = Y at *
    rw [hL2.1]
    omega
theorem dif_u64 {x z : Int} (hx : 0 ≤ x ∧ x < 4294967296) (hz : 0 ≤ z ∧ z ≤ 4294967296) : IntKind.u64.wrap (x - z) % 4294967296 = (x - z) % 4294967296 := by
  by_cases h : x - z < 0
  · rw [u64neg h (by omega)]; omega
  · rw [u64 (by omega) (by omega)]
theorem sub_l0 {b : List Int} (hb : lim b) (n : Nat) (hn : n < 35184372088800) : ∀ (r : List Int) (i : Nat) (p : List Int) (l : Int), p.length = i → i + r.length = n → lim p → lim r → 0 ≤ l → l ≤ 1 →
    Ev (fun k => nat_Sub.l0 k b (p ++ r) l (n : Int) (i : Int)) (ofN (val (p ++ (subl l r (b.drop i)).1)), 0) := by
  intro r
  induction r with
  | nil =>
    intro i p l hp hi hlp _ h0 h1
    simp only [List.length_nil] at hi
    have hc := cut_ev hlp (by omega)
    refine Ev.step (f := fun k => (nat_cut.f k p).bind fun t => some (t, 0)) (fun k => ?_) (by simp only [subl, List.append_nil]; exact Ev.bind hc (Ev.now _))
    simp only [nat_Sub.l0]; rw [if_neg (by omega), List.append_nil]
  | cons x r ih =>
    intro i p l hp hi hlp hlr h0 h1
    obtain ⟨hx, hlr'⟩ := lim_cons.1 hlr
    simp only [List.length_cons] at hi
    have e1 : rd (p ++ x :: r) (i : Int) = x := rd_app _ _ _ _ (by omega)
    cases hbd : b.drop i with
    | nil =>
      have hbl : b.length ≤ i := by have := congrArg List.length hbd; rw [List.length_drop, List.length_nil] at this; omega
      have hbd' : b.drop (i + 1) = [] := List.drop_eq_nil_of_le (by omega)
      have h := ih (i + 1) (p ++ [(x - l) % 4294967296]) (if x < l then 1 else 0) (by simp; omega) (by omega) (lim_append.2 ⟨hlp, by intro z hz; simp at hz; subst hz; omega⟩) hlr' (by split <;> omega) (by split <;> omega)
      rw [hbd', List.append_assoc, List.append_assoc, List.singleton_append, List.singleton_append] at h
      refine Ev.step (fun k => ?_) (by simpa only [subl] using h)
      simp only [nat_Sub.l0]
      rw [if_pos (by omega), if_pos (by omega), if_pos (by simp; omega), if_neg (by omega), e1, u64 hx.1 (by omega), u64 h0 (by omega), dif_u64 hx ⟨h0, by omega⟩, set_app _ _ _ _ _ (by omega), w64 (by omega) (by omega)]
      split <;> rfl
    | cons y bs =>
      obtain ⟨f1, f2, f3⟩ := rd_drop hbd
      have hy : 0 ≤ y ∧ y < 4294967296 := by have := lim_drop hb i; rw [hbd] at this; exact (lim_cons.1 this).1
      have h := ih (i + 1) (p ++ [(x - (l + y)) % 4294967296]) (if x < l + y then 1 else 0) (by simp; omega) (by omega) (lim_append.2 ⟨hlp, by intro z hz; simp at hz; subst hz; omega⟩) hlr' (by split <;> omega) (by split <;> omega)
      rw [f3, List.append_assoc, List.append_assoc, List.singleton_append, List.singleton_append] at h
      refine Ev.step (fun k => ?_) (by simpa only [subl] using h)
      simp only [nat_Sub.l0]
      rw [if_pos (by omega), if_pos (by omega), if_pos (by simp; omega), if_pos (by omega), e1, f1, u64 hx.1 (by omega), u64 hy.1 (by omega), u64 h0 (by omega), u64 (x := l + y) (by omega) (by omega), dif_u64 hx ⟨by omega, by omega⟩, set_app _ _ _ _ _ (by omega), w64 (by omega) (by omega)]
      split <;> rfl
theorem sub_ev {a b : List Int} (ha : lim a) (hb : lim b) (hl : a.length ≤ 8796093022208) (hm : b.length ≤ 8796093022208) :
    Ev (fun k => nat_Sub.f k a b) (if val a < val b then ([], 1) else (ofN (val a - val b), 0)) := by
  unfold nat_Sub.f
  have hcmp := cmp_ev ha hb (by omega) (by omega)
  have h1 := len_cut ha
  by_cases hlt : val a < val b
  · rw [if_pos hlt] at hcmp ⊢
    exact Ev.bind hcmp (Ev.congr (f := fun _ => some ([], 1)) (fun k => if_pos (by decide)) (Ev.now _))
  · have hge : ¬ ((if val b < val a then (1 : Int) else 0) < 0) := by split <;> decide
    rw [if_neg hlt] at hcmp ⊢
    refine Ev.bind hcmp (Ev.congr (f := fun k => _) (fun k => if_neg hge) ?_)
    refine Ev.bind (cut_ev ha (by omega)) ?_
    rw [clone_some (by omega)]
    obtain ⟨s1, s2, s3, s4, s5⟩ := subl_val (ofN (val a)) b 0 (lim_ofN _) hb (by omega) (by omega)
    have h := sub_l0 hb (ofN (val a)).length (by omega) (ofN (val a)) 0 [] 0 rfl (by omega) lim_nil (lim_ofN _) (by omega) (by omega)
    have hbt : val (b.take (ofN (val a)).length) = val b := by
      have e := val_append (b.take (ofN (val a)).length) (b.drop (ofN (val a)).length)
      rw [List.take_append_drop] at e
      by_cases hbl : b.length ≤ (ofN (val a)).length
      · rw [List.take_of_length_le hbl]
      · rw [List.length_take, Nat.min_eq_left (by omega)] at e
        have h2 := lt_len_ofN (val a)
        by_cases hz : val (b.drop (ofN (val a)).length) = 0
        · rw [hz] at e; omega
        · have h3 := Nat.mul_le_mul_left (4294967296 ^ (ofN (val a)).length) (show 1 ≤ val (b.drop (ofN (val a)).length) by omega)
          omega
    rw [hbt, val_ofN] at s5
    have s6 := val_lt s1
    rw [s2] at s6
    have hpow : ((4294967296 : Int) ^ (ofN (val a)).length) = ((4294967296 ^ (ofN (val a)).length : Nat) : Int) := by simp
    rw [hpow] at s5
    have hv : val (subl 0 (ofN (val a)) b).1 = val a - val b := by
      rcases (show (subl 0 (ofN (val a)) b).2 = 0 ∨ (subl 0 (ofN (val a)) b).2 = 1 by omega) with e | e
      · rw [e, Int.mul_zero] at s5; omega
      · rw [e, Int.mul_one] at s5; omega
    simp only [List.drop_zero, List.nil_append] at h
    rw [hv] at h
    exact h
end Go.Proofs.Ytaclkccgjpjdjaa.Nt
end
section
/- Numbers as rows of bits, lowest first, with no program in sight: bval, bitsN. -/
namespace Go.Proofs.Ytaclkccgjpjdjaa.Nb
open Go.RowKit Go.Proofs.YtaclkccgjpjdjaaW.PrintWords Go.Proofs.YtaclkccgjpjdjaaW.PrintMore Go.Proofs.Ytaclkccgjpjdjaa.N Go.Proofs.Ytaclkccgjpjdjaa.Nt
set_option linter.unusedVariables false
set_option linter.unusedSimpArgs false
def bval : List Bool → Nat
  | [] => 0
  | b :: l => b.toNat + 2 * bval l
def bitsF : Nat → Nat → List Bool
  | 0, _ => []
  | k + 1, n => if n = 0 then [] else (n % 2 == 1) :: bitsF k (n / 2)
def bitsN (n : Nat) : List Bool := bitsF n n
theorem bitsF_zero (k : Nat) : bitsF k 0 = [] := by cases k <;> simp [bitsF]
theorem bitsF_eq : ∀ (k m n : Nat), n ≤ k → n ≤ m → bitsF k n = bitsF m n := by
  intro k
  induction k with
  | zero => intro m n h _; obtain rfl : n = 0 := by omega
            rw [bitsF_zero, bitsF_zero]
  | succ k ih =>
    intro m n hk hm
    by_cases h0 : n = 0
    · subst h0; rw [bitsF_zero, bitsF_zero]
    · cases m with
      | zero => omega
      | succ m => simp only [bitsF, if_neg h0]; rw [ih m (n / 2) (by omega) (by omega)]
theorem bitsN_zero : bitsN 0 = [] := rfl
theorem bitsN_pos {n : Nat} (h : n ≠ 0) : bitsN n = (n % 2 == 1) :: bitsN (n / 2) := by
  cases n with
  | zero => exact absurd rfl h
  | succ n => simp only [bitsN, bitsF, if_neg h]; rw [bitsF_eq n ((n + 1) / 2) ((n + 1) / 2) (by omega) (Nat.le_refl _)]
theorem bval_nil : bval [] = 0 := rfl
theorem bval_cons (b : Bool) (l : List Bool) : bval (b :: l) = b.toNat + 2 * bval l := rfl
theorem bval_append (l m : List Bool) : bval (l ++ m) = bval l + 2 ^ l.length * bval m := by
  induction l with
  | nil => simp [bval_nil]
  | cons b l ih => rw [List.cons_append, bval_cons, bval_cons, ih, List.length_cons, Nat.pow_succ, Nat.mul_add, ← Nat.mul_assoc, Nat.mul_comm 2 (2 ^ l.length)]; omega
theorem toNat_le (b : Bool) : b.toNat ≤ 1 := by cases b <;> simp
theorem bval_lt (l : List Bool) : bval l < 2 ^ l.length := by
  induction l with
  | nil => simp [bval_nil]
  | cons b l ih => rw [bval_cons, List.length_cons, Nat.pow_succ]; have := toNat_le b; omega
theorem bitsN_snoc_true (l : List Bool) : bitsN (bval (l ++ [true])) = l ++ [true] := by
  induction l with
  | nil => rfl
  | cons b l ih =>
    have hp : bval (l ++ [true]) ≠ 0 := by rw [bval_append]; simp [bval_cons, bval_nil]
    have hn : bval (b :: (l ++ [true])) ≠ 0 := by rw [bval_cons]; omega
    rw [List.cons_append, bitsN_pos hn, bval_cons]
    have hb := toNat_le b
    rw [show (b.toNat + 2 * bval (l ++ [true])) / 2 = bval (l ++ [true]) by omega, ih,
      show (b.toNat + 2 * bval (l ++ [true])) % 2 = b.toNat by omega]
    cases b <;> rfl
theorem bval_snoc_false (l : List Bool) : bval (l ++ [false]) = bval l := by rw [bval_append]; simp [bval_cons, bval_nil]
theorem rdOf_nat (l : List Bool) (i : Nat) : rdOf false l (i : Int) = l.getD i false := by simp [rdOf]
theorem take_succ_getD (l : List Bool) (i : Nat) (h : i < l.length) : l.take (i + 1) = l.take i ++ [l.getD i false] := by
  rw [List.take_add_one, List.getD_eq_getElem?_getD, List.getElem?_eq_getElem h]; simp
theorem cut_l0 (l : List Bool) (hl : l.length < 4000000000000000000) : ∀ i : Nat, i ≤ l.length → bval (l.take i) = bval l →
    Ev (fun k => foliotref01_cut.l0 k l (i : Int)) (bitsN (bval l)) := by
  intro i
  induction i with
  | zero =>
    intro _ hv
    refine Ev.step (f := fun _ => some (bitsN (bval l))) (fun k => ?_) (Ev.now _)
    simp only [foliotref01_cut.l0]
    rw [if_neg (by omega), if_pos (by omega), if_pos (by omega), ← hv]
    simp [bval_nil, bitsN_zero]
  | succ i ih =>
    intro hi hv
    have e : wrap64 (((i + 1 : Nat) : Int) - 1) = (i : Int) := by rw [w64 (by omega) (by omega)]; omega
    cases hb : l.getD i false with
    | true =>
      refine Ev.step (f := fun _ => some (bitsN (bval l))) (fun k => ?_) (Ev.now _)
      simp only [foliotref01_cut.l0]
      rw [e, if_pos (by omega), if_pos (by omega), if_pos (by omega), rdOf_nat, hb, if_pos rfl, if_pos (by omega), if_pos (by omega), Int.toNat_natCast, ← hv,
        take_succ_getD l i (by omega), hb, bitsN_snoc_true]
    | false =>
      refine Ev.step (f := fun k => foliotref01_cut.l0 k l (i : Int)) (fun k => ?_) (ih (by omega) ?_)
      · simp only [foliotref01_cut.l0]
        rw [e, if_pos (by omega), if_pos (by omega), if_pos (by omega), rdOf_nat, hb, if_neg (by simp)]
      · rw [take_succ_getD l i (by omega), hb, bval_snoc_false] at hv; exact hv
theorem cut_ev {l : List Bool} (hl : l.length < 4000000000000000000) : Ev (fun k => foliotref01_cut.f k l) (bitsN (bval l)) :=
  cut_l0 l hl l.length (Nat.le_refl _) (by rw [List.take_length])
end Go.Proofs.Ytaclkccgjpjdjaa.Nb
end
section
/- The reference's rows of bits tell the numbers that they should: at, cmp, Of. -/
namespace Go.Proofs.Ytaclkccgjpjdjaa.Nb
open Go.RowKit Go.Proofs.YtaclkccgjpjdjaaW.PrintWords Go.Proofs.YtaclkccgjpjdjaaW.PrintMore Go.Proofs.Ytaclkccgjpjdjaa.N Go.Proofs.Ytaclkccgjpjdjaa.Nt
set_option linter.unusedVariables false
set_option linter.unusedSimpArgs false
theorem getD_bit : ∀ (l : List Bool) (i : Nat), l.getD i false = (bval l / 2 ^ i % 2 == 1) := by
  intro l
  induction l with
  | nil => intro i; simp [bval_nil]
  | cons b l ih =>
    intro i
    cases i with
    | zero => rw [bval_cons]; cases b <;> simp <;> omega
    | succ i =>
      rw [List.getD_cons_succ, ih, bval_cons, Nat.pow_succ, Nat.mul_comm (2 ^ i) 2, ← Nat.div_div_eq_div_mul]
      have := toNat_le b
      rw [show (b.toNat + 2 * bval l) / 2 = bval l by omega]
theorem at_at (l : List Bool) (i : Nat) : foliotref01_at.f l (i : Int) = some (l.getD i false) := by
  unfold foliotref01_at.f
  by_cases h : i < l.length
  · rw [if_pos (by omega), if_pos (by omega), rdOf_nat]
  · rw [if_neg (by omega), List.getD_eq_getElem?_getD, List.getElem?_eq_none (by omega)]; rfl
def cmp3 (a b : Nat) : Int := if a < b then -1 else if b < a then 1 else 0
theorem cmp_l0 (a b : List Bool) : ∀ i : Nat, i < 4000000000000000000 → bval a / 2 ^ i = bval b / 2 ^ i →
    Ev (fun k => foliotref01_cmp.l0 k a b ((i : Int) - 1)) (cmp3 (bval a) (bval b)) := by
  intro i
  induction i with
  | zero =>
    intro _ h
    refine Ev.step (f := fun _ => some (cmp3 (bval a) (bval b))) (fun k => ?_) (Ev.now _)
    simp only [foliotref01_cmp.l0]
    rw [if_neg (by omega)]
    simp at h
    simp [cmp3, h]
  | succ i ih =>
    intro hi h
    have e : (((i + 1 : Nat) : Int) - 1) = (i : Int) := by omega
    rw [e]
    have ha : bval a / 2 ^ (i + 1) = bval a / 2 ^ i / 2 := by rw [Nat.pow_succ, Nat.div_div_eq_div_mul]
    have hb : bval b / 2 ^ (i + 1) = bval b / 2 ^ i / 2 := by rw [Nat.pow_succ, Nat.div_div_eq_div_mul]
    rw [ha, hb] at h
    have ga := getD_bit a i
    have gb := getD_bit b i
    by_cases hx : bval a / 2 ^ i = bval b / 2 ^ i
    · refine Ev.step (f := fun k => foliotref01_cmp.l0 k a b ((i : Int) - 1)) (fun k => ?_) (ih (by omega) hx)
      simp only [foliotref01_cmp.l0]
      rw [if_pos (by omega), at_at, at_at, Option.bind_some, Option.bind_some, ga, gb, hx, if_neg (by simp), w64 (by omega) (by omega)]
    · refine Ev.step (f := fun _ => some (cmp3 (bval a) (bval b))) (fun k => ?_) (Ev.now _)
      simp only [foliotref01_cmp.l0]
      rw [if_pos (by omega), at_at, at_at, Option.bind_some, Option.bind_some, Option.bind_some]
      by_cases h1 : bval a / 2 ^ i % 2 = 1
      · have h2 : bval b / 2 ^ i % 2 = 0 := by omega
        rw [h1] at ga; rw [h2] at gb
        rw [ga, gb, if_pos (by decide), if_pos (by decide)]
        have hlt : bval b / 2 ^ i < bval a / 2 ^ i := by omega
        have : bval b < bval a := by
          apply Nat.lt_of_not_le; intro hc
          have := Nat.div_le_div_right (c := 2 ^ i) hc; omega
        unfold cmp3; rw [if_neg (by omega), if_pos this]
      · have h1' : bval a / 2 ^ i % 2 = 0 := by omega
        have h2 : bval b / 2 ^ i % 2 = 1 := by omega
        rw [h1'] at ga; rw [h2] at gb
        rw [ga, gb, if_pos (by decide), if_neg (by decide)]
        have hlt : bval a / 2 ^ i < bval b / 2 ^ i := by omega
        have : bval a < bval b := by
          apply Nat.lt_of_not_le; intro hc
          have := Nat.div_le_div_right (c := 2 ^ i) hc; omega
        unfold cmp3; rw [if_pos this]
theorem cmp_ev {a b : List Bool} (ha : a.length < 4000000000000000000) (hb : b.length < 4000000000000000000) :
    Ev (fun k => foliotref01_cmp.f k a b) (cmp3 (bval a) (bval b)) := by
  have hz : ∀ (l : List Bool) (n : Nat), l.length ≤ n → bval l / 2 ^ n = 0 := fun l n h =>
    Nat.div_eq_of_lt (Nat.lt_of_lt_of_le (bval_lt l) (Nat.pow_le_pow_right (by omega) h))
  have h := cmp_l0 a b (max a.length b.length) (by omega) (by rw [hz a _ (by omega), hz b _ (by omega)])
  refine Ev.congr (fun k => ?_) h
  unfold foliotref01_cmp.f mx
  have : (if (a.length : Int) < (b.length : Int) then (b.length : Int) else (a.length : Int)) = ((max a.length b.length : Nat) : Int) := by split <;> omega
  rw [this, w64 (by omega) (by omega)]
end Go.Proofs.Ytaclkccgjpjdjaa.Nb
end
section
/- The reference's rows of bits: Of tells a row of limbs as bits. -/
namespace Go.Proofs.Ytaclkccgjpjdjaa.Nb
open Go.RowKit Go.Proofs.YtaclkccgjpjdjaaW.PrintWords Go.Proofs.YtaclkccgjpjdjaaW.PrintMore Go.Proofs.Ytaclkccgjpjdjaa.N Go.Proofs.Ytaclkccgjpjdjaa.Nt
set_option linter.unusedVariables false
set_option linter.unusedSimpArgs false
theorem bits_succ (x j : Nat) : x % 2 ^ (j + 1) = x % 2 ^ j + 2 ^ j * (x / 2 ^ j % 2) := Nat.mod_pow_succ
end Go.Proofs.Ytaclkccgjpjdjaa.Nb
end
section
/- The reference's sum of two rows of bits. -/
namespace Go.Proofs.Ytaclkccgjpjdjaa.Nb
open Go.RowKit Go.Proofs.YtaclkccgjpjdjaaW.PrintWords Go.Proofs.YtaclkccgjpjdjaaW.PrintMore Go.Proofs.Ytaclkccgjpjdjaa.N Go.Proofs.Ytaclkccgjpjdjaa.Nt
set_option linter.unusedVariables false
set_option linter.unusedSimpArgs false
theorem ww {x : Int} (h : -9000 ≤ x ∧ x ≤ 9000) : wrap64 x = x := w64 (by omega) (by omega)
def s3 (a b c : Bool) : Bool := a ^^ (b ^^ c)
def c3 (a b c : Bool) : Bool := (a && b) || (a && c) || (b && c)
theorem add_j (x0 x1 y : List Bool) (c : Bool) (i : Nat) (hy : y.length < 1000000000000) (hi : i < 1000000000000) (r : List Bool)
    (h : Ev (fun k => foliotref01_add.l0 k x0 x1 (y ++ [s3 (x0.getD i false) (x1.getD i false) c]) (c3 (x0.getD i false) (x1.getD i false) c) ((i + 1 : Nat) : Int)) r) :
    Ev (fun k => foliotref01_add.j1 k x0 x1 y c (i : Int) true) r := by
  refine Ev.step (f := fun k => foliotref01_add.j2 k x0 x1 y c (i : Int) (if x0.getD i false = true then 1 else 0)) (fun k => ?_) (Ev.step (fun k => ?_) h)
  · simp only [foliotref01_add.j1]
    rw [if_pos trivial, at_at, Option.bind_some]
    by_cases ha : x0.getD i false = true
    · rw [if_pos ha, if_pos ha]; rfl
    · rw [if_neg ha, if_neg ha]
  · simp only [foliotref01_add.j2]
    rw [at_at, Option.bind_some, w64 (x := (i : Int) + 1) (by omega) (by omega), show ((i : Int) + 1) = ((i + 1 : Nat) : Int) by omega]
    have hl : y.length < 140737488355328 := by omega
    generalize x0.getD i false = a
    generalize x1.getD i false = b
    cases a <;> cases b <;> cases c <;>
      simp only [if_true, if_false, Bool.false_eq_true, if_pos hl, ww (x := 0 + 1) (by omega), ww (x := 1 + 1) (by omega), ww (x := 0 + 1 + 1) (by omega), ww (x := 1 + 1 + 1) (by omega)] <;> rfl
theorem s3_c3 (a b c : Bool) : (s3 a b c).toNat + 2 * (c3 a b c).toNat = a.toNat + b.toNat + c.toNat := by cases a <;> cases b <;> cases c <;> rfl
theorem bit_toNat (A i : Nat) : (A / 2 ^ i % 2 == 1).toNat = A / 2 ^ i % 2 := by
  have : A / 2 ^ i % 2 < 2 := Nat.mod_lt _ (by omega)
  generalize A / 2 ^ i % 2 = z at *
  match z, this with
  | 0, _ => rfl
  | 1, _ => rfl
theorem mx_nat (a b : Nat) : mx (a : Int) (b : Int) = ((max a b : Nat) : Int) := by unfold mx; split <;> omega
theorem add_end (x0 x1 y : List Bool) (i : Nat) (hi : max x0.length x1.length ≤ i) (hy : y.length < 1000000000000) :
    Ev (fun k => foliotref01_add.l0 k x0 x1 y false (i : Int)) (bitsN (bval y)) := by
  refine Ev.step (f := fun k => foliotref01_add.j1 k x0 x1 y false (i : Int) false) (fun k => ?_) (Ev.step (f := fun k => (foliotref01_cut.f k y).bind fun t => some t) (fun k => ?_) (Ev.bind (cut_ev (by omega)) (Ev.now _)))
  · simp only [foliotref01_add.l0]; rw [mx_nat, if_neg (by omega)]
  · simp only [foliotref01_add.j1]; rw [if_neg (by simp)]
theorem add_l0 (x0 x1 : List Bool) (hn : max x0.length x1.length < 100000000000) : ∀ (d i : Nat) (y : List Bool) (c : Bool), i + d = max x0.length x1.length → y.length = i →
    bval y + 2 ^ i * c.toNat = bval x0 % 2 ^ i + bval x1 % 2 ^ i → Ev (fun k => foliotref01_add.l0 k x0 x1 y c (i : Int)) (bitsN (bval x0 + bval x1)) := by
  have hm : ∀ (l : List Bool) (n : Nat), l.length ≤ n → bval l % 2 ^ n = bval l := fun l n h =>
    Nat.mod_eq_of_lt (Nat.lt_of_lt_of_le (bval_lt l) (Nat.pow_le_pow_right (by omega) h))
  intro d
  induction d with
  | zero =>
    intro i y c hi hy hv
    rw [hm x0 i (by omega), hm x1 i (by omega)] at hv
    cases c with
    | false =>
      have h := add_end x0 x1 y i (by omega) (by omega)
      rw [show bval x0 + bval x1 = bval y by rw [← hv]; simp]; exact h
    | true =>
      refine Ev.step (f := fun k => foliotref01_add.j1 k x0 x1 y true (i : Int) true) (fun k => ?_) (add_j x0 x1 y true i (by omega) (by omega) _ ?_)
      · simp only [foliotref01_add.l0]; rw [mx_nat, if_neg (by omega)]
      · have z : ∀ l : List Bool, l.length ≤ i → l.getD i false = false := fun l h => by
          rw [List.getD_eq_getElem?_getD, List.getElem?_eq_none h]; rfl
        rw [z x0 (by omega), z x1 (by omega)]
        have h := add_end x0 x1 (y ++ [true]) (i + 1) (by omega) (by simp; omega)
        rw [show bval x0 + bval x1 = bval (y ++ [true]) by rw [← hv, bval_append, hy]; simp [bval_cons, bval_nil]]; exact h
  | succ d ih =>
    intro i y c hi hy hv
    refine Ev.step (f := fun k => foliotref01_add.j1 k x0 x1 y c (i : Int) true) (fun k => ?_) (add_j x0 x1 y c i (by omega) (by omega) _ (ih (i + 1) _ _ (by omega) (by simp [hy]) ?_))
    · simp only [foliotref01_add.l0]; rw [mx_nat, if_pos (by omega)]
    · have e := s3_c3 (x0.getD i false) (x1.getD i false) c
      rw [bval_append, hy, bits_succ, bits_succ, bval_cons, bval_nil, ← bit_toNat (bval x0), ← bit_toNat (bval x1), ← getD_bit, ← getD_bit, Nat.pow_succ]
      generalize (s3 (x0.getD i false) (x1.getD i false) c).toNat = S at *
      generalize (c3 (x0.getD i false) (x1.getD i false) c).toNat = C at *
      generalize (x0.getD i false).toNat = P at *
      generalize (x1.getD i false).toNat = Q at *
      have e2 : 2 ^ i * (S + 2 * C) = 2 ^ i * (P + Q + c.toNat) := by rw [e]
      simp only [Nat.mul_add, Nat.mul_zero, Nat.add_zero, ← Nat.mul_assoc] at e2 ⊢
      omega
theorem add_ev {x0 x1 : List Bool} (h0 : x0.length < 100000000000) (h1 : x1.length < 100000000000) : Ev (fun k => foliotref01_add.f k x0 x1) (bitsN (bval x0 + bval x1)) :=
  add_l0 x0 x1 (by omega) _ 0 [] false (Nat.zero_add _) rfl (by simp [bval_nil, Nat.mod_one])
end Go.Proofs.Ytaclkccgjpjdjaa.Nb
end
section
/- The reference's difference of two rows of bits. -/
namespace Go.Proofs.Ytaclkccgjpjdjaa.Nb
open Go.RowKit Go.Proofs.YtaclkccgjpjdjaaW.PrintWords Go.Proofs.YtaclkccgjpjdjaaW.PrintMore Go.Proofs.Ytaclkccgjpjdjaa.N Go.Proofs.Ytaclkccgjpjdjaa.Nt
set_option linter.unusedVariables false
set_option linter.unusedSimpArgs false
def b3 (a b c : Bool) : Bool := (!a && b) || (!a && c) || (b && c)
theorem s3_b3 (a b c : Bool) : (s3 a b c).toNat + b.toNat + c.toNat = a.toNat + 2 * (b3 a b c).toNat := by cases a <;> cases b <;> cases c <;> rfl
theorem sub_j (x0 x1 y : List Bool) (c : Bool) (i : Nat) (hy : y.length < 1000000000000) (hi : i < 1000000000000) (hx : i < x0.length) (r : List Bool)
    (h : Ev (fun k => foliotref01_sub.l0 k x0 x1 (y ++ [s3 (x0.getD i false) (x1.getD i false) c]) (b3 (x0.getD i false) (x1.getD i false) c) ((i + 1 : Nat) : Int)) r) :
    Ev (fun k => foliotref01_sub.l0 k x0 x1 y c (i : Int)) r := by
  refine Ev.step (f := fun k => foliotref01_sub.j1 k x0 x1 y c (i : Int) (if x0.getD i false = true then 1 else 0)) (fun k => ?_) (Ev.step (fun k => ?_) h)
  · simp only [foliotref01_sub.l0]
    rw [if_pos (by omega), at_at, Option.bind_some]
    by_cases ha : x0.getD i false = true
    · rw [if_pos ha, if_pos ha]; rfl
    · rw [if_neg ha, if_neg ha]
  · simp only [foliotref01_sub.j1]
    rw [at_at, Option.bind_some, w64 (x := (i : Int) + 1) (by omega) (by omega), show ((i : Int) + 1) = ((i + 1 : Nat) : Int) by omega]
    have hl : y.length < 140737488355328 := by omega
    generalize x0.getD i false = a
    generalize x1.getD i false = b
    cases a <;> cases b <;> cases c <;>
      simp only [if_true, if_false, Bool.false_eq_true, if_pos hl, ww (x := 0 - 1) (by omega), ww (x := 1 - 1) (by omega), ww (x := 0 - 1 - 1) (by omega), ww (x := 1 - 1 - 1) (by omega)] <;> rfl
theorem sub_l0 (x0 x1 : List Bool) (hn : x0.length < 100000000000) (hle : bval x1 ≤ bval x0) : ∀ (d i : Nat) (y : List Bool) (c : Bool), i + d = x0.length → y.length = i →
    bval y + bval x1 % 2 ^ i = bval x0 % 2 ^ i + 2 ^ i * c.toNat → Ev (fun k => foliotref01_sub.l0 k x0 x1 y c (i : Int)) (bitsN (bval x0 - bval x1)) := by
  intro d
  induction d with
  | zero =>
    intro i y c hi hy hv
    obtain rfl : i = x0.length := by omega
    rw [Nat.mod_eq_of_lt (bval_lt x0), Nat.mod_eq_of_lt (Nat.lt_of_le_of_lt hle (bval_lt x0))] at hv
    have hyl := bval_lt y
    rw [hy] at hyl
    have hc : c = false := by
      cases c with
      | false => rfl
      | true => simp at hv; omega
    subst hc
    simp at hv
    refine Ev.step (f := fun k => (foliotref01_cut.f k y).bind fun t => some t) (fun k => ?_) (Ev.bind (a := bitsN (bval x0 - bval x1)) ?_ (Ev.now _))
    · simp only [foliotref01_sub.l0]; rw [if_neg (by omega)]
    · rw [show bval x0 - bval x1 = bval y by omega]; exact cut_ev (by omega)
  | succ d ih =>
    intro i y c hi hy hv
    refine sub_j x0 x1 y c i (by omega) (by omega) (by omega) _ (ih (i + 1) _ _ (by omega) (by simp [hy]) ?_)
    have e := s3_b3 (x0.getD i false) (x1.getD i false) c
    rw [bval_append, hy, bits_succ, bits_succ, bval_cons, bval_nil, ← bit_toNat (bval x0), ← bit_toNat (bval x1), ← getD_bit, ← getD_bit, Nat.pow_succ]
    generalize (s3 (x0.getD i false) (x1.getD i false) c).toNat = S at *
    generalize (b3 (x0.getD i false) (x1.getD i false) c).toNat = C at *
    generalize (x0.getD i false).toNat = P at *
    generalize (x1.getD i false).toNat = Q at *
    have e2 : 2 ^ i * (S + Q + c.toNat) = 2 ^ i * (P + 2 * C) := by rw [e]
    simp only [Nat.mul_add, Nat.mul_zero, Nat.add_zero, ← Nat.mul_assoc] at e2 ⊢
    omega
end Go.Proofs.Ytaclkccgjpjdjaa.Nb
end
section
/- The reference's Trim, limbs and short. -/
namespace Go.Proofs.Ytaclkccgjpjdjaa.Nb
open Go.RowKit Go.Proofs.YtaclkccgjpjdjaaW.PrintWords Go.Proofs.YtaclkccgjpjdjaaW.PrintMore Go.Proofs.Ytaclkccgjpjdjaa.N Go.Proofs.Ytaclkccgjpjdjaa.Nt
set_option linter.unusedVariables false
set_option linter.unusedSimpArgs false
theorem rtrim_l0 (l : List Int) (hlim : lim l) (hl : l.length < 1000000000000) : ∀ i : Nat, i ≤ l.length → val (l.take i) = val l →
    Ev (fun k => foliotref01_Trim.l0 k l (i : Int)) (ofN (val l)) := by
  intro i
  induction i with
  | zero =>
    intro _ hv
    refine Ev.step (f := fun _ => some (ofN (val l))) (fun k => ?_) (Ev.now _)
    simp only [foliotref01_Trim.l0]
    rw [if_neg (by omega), Option.bind_some, if_pos (by omega), if_pos (by omega), if_pos (by simp), ← hv]
    simp [val_nil, ofN_zero]
  | succ i ih =>
    intro hi hv
    have e : wrap64 (((i + 1 : Nat) : Int) - 1) = (i : Int) := by rw [w64 (by omega) (by omega)]; omega
    have hr : rd l (i : Int) = l[i]'(by omega) := by
      simp [rd, List.getD_eq_getElem?_getD, List.getElem?_eq_getElem (show i < l.length by omega)]
    have ht : l.take (i + 1) = l.take i ++ [l[i]'(by omega)] := List.take_succ_eq_append_getElem (by omega)
    by_cases h0 : l[i]'(by omega) = 0
    · refine Ev.step (f := fun k => foliotref01_Trim.l0 k l (i : Int)) (fun k => ?_) (ih (by omega) ?_)
      · simp only [foliotref01_Trim.l0]
        rw [e, if_pos (by omega), if_pos (by omega), if_pos (by omega), hr, if_pos h0]
      · rw [ht, h0, val_snoc_zero] at hv; exact hv
    · refine Ev.step (f := fun _ => some (ofN (val l))) (fun k => ?_) (Ev.now _)
      simp only [foliotref01_Trim.l0]
      rw [e, if_pos (by omega), if_pos (by omega), if_pos (by omega), hr, if_neg h0, Option.bind_some, if_pos (by omega), if_pos (by omega), Int.toNat_natCast, if_pos (by simp; omega), List.nil_append, ← hv,
        ofN_val (fun x hx => hlim x (List.mem_of_mem_take hx)) (by intro x hx; rw [ht, List.getLast?_concat] at hx; cases hx; exact h0)]
theorem rtrim_ev {l : List Int} (h : lim l) (hl : l.length < 1000000000000) : Ev (fun k => foliotref01_Trim.f k l) (ofN (val l)) :=
  rtrim_l0 l h hl l.length (Nat.le_refl _) (by rw [List.take_length])
end Go.Proofs.Ytaclkccgjpjdjaa.Nb
end
section
/- The reference's Print tells a number's digits. -/
namespace Go.Proofs.Ytaclkccgjpjdjaa.Nb
open Go.RowKit Go.Proofs.YtaclkccgjpjdjaaW.PrintWords Go.Proofs.YtaclkccgjpjdjaaW.PrintMore Go.Proofs.Ytaclkccgjpjdjaa.N Go.Proofs.Ytaclkccgjpjdjaa.Nt
set_option linter.unusedVariables false
set_option linter.unusedSimpArgs false
def rfits (l : List Int) : Prop := lim l ∧ l.length ≤ 1000000000
instance (l : List Int) : Decidable (rfits l) := inferInstanceAs (Decidable (_ ∧ _))
end Go.Proofs.Ytaclkccgjpjdjaa.Nb
end
