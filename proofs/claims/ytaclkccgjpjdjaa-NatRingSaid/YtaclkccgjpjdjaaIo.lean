/- What a row's closed facts ask of the cut's own word: told once, with the program a variable. -/
import Derived.Test.YtaclkccgjpjdjaaRows
import Derived.ProofKit
import Derived.JoinedOf
import Derived.KernelRfl
namespace Go.Proofs.Ytaclkccgjpjdjaa.Io
theorem ws_word : ∀ (w l : List Char), (∀ c ∈ w, c ≠ Char.ofNat 32) → wordsSigns (w ++ Char.ofNat 32 :: l) = w :: wordsSigns l
  | [], l, _ => rfl
  | c :: w, l, h => by
    have ih := ws_word w l (fun x hx => h x (by simp [hx]))
    rw [List.cons_append, wordsSigns, ih]
    intro e
    exact h c (by simp) e
def ioH : List Nat := [104, 97, 114, 110, 101, 115, 115]
def ioS : List Nat := [102, 49, 51, 55, 101, 53, 51, 101, 98, 52, 101, 53, 99, 100, 100, 51, 53, 97, 97, 51, 53, 49, 56, 55, 102, 55, 52, 52, 57, 102, 51, 98, 100, 100, 102, 53, 52, 100, 102, 100, 55, 49, 98, 53, 99, 101, 56, 100, 48, 56, 102, 56, 102, 52, 48, 102, 99, 102, 56, 97, 51, 101, 100, 56]
def ioC : List Nat := [99, 117, 116]
def ioR : List Nat := [97, 116, 32, 102, 111, 108, 105, 111, 116, 47, 102, 111, 108, 105, 111, 116, 108, 97, 119, 48, 49, 46, 78, 97, 116, 68, 105, 118, 105, 100, 101, 115, 32, 102, 111, 108, 105, 111, 116, 47, 102, 111, 108, 105, 111, 116, 108, 97, 119, 48, 49, 46, 78, 97, 116, 84, 101, 120, 116, 115, 32, 102, 111, 108, 105, 111, 116, 47, 102, 111, 108, 105, 111, 116, 108, 97, 119, 48, 49, 46, 78, 97, 116, 82, 101, 115, 116, 32, 102, 111, 108, 105, 111, 116, 47, 102, 111, 108, 105, 111, 116, 108, 97, 119, 48, 49, 46, 78, 97, 116, 83, 104, 97, 114, 101, 115, 32, 102, 111, 108, 105, 111, 116, 47, 102, 111, 108, 105, 111, 116, 108, 97, 119, 48, 49, 46, 78, 97, 116, 66, 97, 99, 107, 32, 102, 111, 108, 105, 111, 116, 47, 102, 111, 108, 105, 111, 116, 108, 97, 119, 48, 49, 46, 78, 97, 116, 82, 105, 110, 103, 32, 102, 111, 108, 105, 111, 116, 47, 102, 111, 108, 105, 111, 116, 108, 97, 119, 48, 49, 46, 78, 97, 116, 83, 117, 109, 115, 32, 102, 111, 108, 105, 111, 116, 47, 102, 111, 108, 105, 111, 116, 108, 97, 119, 48, 50, 46, 73, 110, 116, 101, 103, 101, 114, 68, 105, 118, 105, 100, 101, 115, 32, 102, 111, 108, 105, 111, 116, 47, 102, 111, 108, 105, 111, 116, 108, 97, 119, 48, 50, 46, 73, 110, 116, 101, 103, 101, 114, 84, 101, 120, 116, 115, 32, 102, 111, 108, 105, 111, 116, 47, 102, 111, 108, 105, 111, 116, 108, 97, 119, 48, 50, 46, 73, 110, 116, 101, 103, 101, 114, 82, 105, 110, 103, 32, 102, 111, 108, 105, 111, 116, 47, 102, 111, 108, 105, 111, 116, 108, 97, 119, 48, 50, 46, 73, 110, 116, 101, 103, 101, 114, 83, 109, 97, 108, 108, 32, 102, 111, 108, 105, 111, 116, 47, 102, 111, 108, 105, 111, 116, 108, 97, 119, 48, 50, 46, 73, 110, 116, 101, 103, 101, 114, 82, 101, 115, 116, 32, 102, 111, 108, 105, 111, 116, 47, 102, 111, 108, 105, 111, 116, 108, 97, 119, 48, 50, 46, 73, 110, 116, 101, 103, 101, 114, 79, 114, 100, 101, 114, 32, 102, 111, 108, 105, 111, 116, 47, 102, 111, 108, 105, 111, 116, 108, 97, 119, 48, 50, 46, 73, 110, 116, 101, 103, 101, 114, 83, 117, 109, 115, 32, 102, 111, 108, 105, 111, 116, 47, 102, 111, 108, 105, 111, 116, 108, 97, 119, 49, 56, 46, 83, 111, 108, 118, 101, 84, 101, 108, 108, 115, 32, 102, 111, 108, 105, 111, 116, 47, 102, 111, 108, 105, 111, 116, 108, 97, 119, 49, 56, 46, 83, 111, 108, 118, 101, 69, 120, 97, 99, 116, 32, 102, 111, 108, 105, 111, 116, 47, 102, 111, 108, 105, 111, 116, 108, 97, 119, 49, 56, 46, 83, 111, 108, 118, 101, 70, 105, 114, 115, 116, 32, 102, 111, 108, 105, 111, 116, 47, 102, 111, 108, 105, 111, 116, 108, 97, 119, 49, 56, 46, 83, 111, 108, 118, 101, 84, 119, 105, 99, 101, 32, 102, 111, 108, 105, 111, 116, 47, 102, 111, 108, 105, 111, 116, 108, 97, 119, 50, 55, 46, 83, 112, 101, 99, 68, 117, 97, 108, 32, 102, 111, 108, 105, 111, 116, 47, 102, 111, 108, 105, 111, 116, 108, 97, 119, 50, 55, 46, 83, 112, 101, 99, 83, 105, 110, 99, 101, 32, 102, 111, 108, 105, 111, 116, 47, 102, 111, 108, 105, 111, 116, 108, 97, 119, 50, 55, 46, 83, 112, 101, 99, 78, 111, 110, 101, 32, 102, 111, 108, 105, 111, 116, 47, 102, 111, 108, 105, 111, 116, 108, 97, 119, 48, 51, 46, 82, 97, 116, 105, 111, 84, 101, 120, 116, 115, 32, 102, 111, 108, 105, 111, 116, 47, 102, 111, 108, 105, 111, 116, 108, 97, 119, 48, 51, 46, 82, 97, 116, 105, 111, 80, 97, 114, 116, 115, 32, 102, 111, 108, 105, 111, 116, 47, 102, 111, 108, 105, 111, 116, 108, 97, 119, 48, 51, 46, 82, 97, 116, 105, 111, 79, 110, 101, 32, 102, 111, 108, 105, 111, 116, 47, 102, 111, 108, 105, 111, 116, 108, 97, 119, 48, 51, 46, 82, 97, 116, 105, 111, 66, 97, 99, 107, 32, 102, 111, 108, 105, 111, 116, 47, 102, 111, 108, 105, 111, 116, 108, 97, 119, 48, 51, 46, 82, 97, 116, 105, 111, 70, 105, 101, 108, 100, 32, 102, 111, 108, 105, 111, 116, 47, 102, 111, 108, 105, 111, 116, 108, 97, 119, 48, 51, 46, 82, 97, 116, 105, 111, 79, 114, 100, 101, 114]
theorem io : Try.checked.prog.initOrder = String.ofList (ioH.map Char.ofNat ++ Char.ofNat 32 :: (ioS.map Char.ofNat ++ Char.ofNat 32 :: (ioC.map Char.ofNat ++ Char.ofNat 32 :: ioR.map Char.ofNat))) := by kernel_rfl
theorem words : wordsSigns Try.checked.prog.initOrder.toList = ioH.map Char.ofNat :: ioS.map Char.ofNat :: ioC.map Char.ofNat :: wordsSigns (ioR.map Char.ofNat) := by
  rw [io, String.toList_ofList, ws_word _ _ (by decide +kernel), ws_word _ _ (by decide +kernel), ws_word _ _ (by decide +kernel)]
theorem behind (R : List (List Char)) : behindMainWord (ioH.map Char.ofNat :: ioS.map Char.ofNat :: ioC.map Char.ofNat :: R) = ioC.map Char.ofNat :: R := by kernel_rfl
theorem make_gen (P : Program) (C : List Char) (R : List (List Char)) (h : behindMainWord (wordsSigns P.initOrder.toList) = C :: R) (h1 : (C == "gc".toList) = false) (h2 : (C == "spec".toList) = false) (h3 : (C == "cut".toList) = true) : P.make = some Make.cut := by
  unfold Program.make; rw [h]; simp only [h1, h2, h3, Bool.or_self, Bool.true_or, if_true, Bool.false_eq_true, if_false]
theorem may_gen (P : Program) (C : List Char) (R : List (List Char)) (h : behindMainWord (wordsSigns P.initOrder.toList) = C :: R) (h3 : (C == "cut".toList) = true) (hs : stripLifts liftWords (C :: R) = ([], C :: R)) (hl : P.laysLater = false) (hb : P.bearsReflect = false) (hd : P.doorFits [] = true) : P.mayEnter = true := by
  have h4 : ((C :: R).head? == some "cut".toList) = true := by
    rw [List.head?_cons]; exact h3
  unfold Program.mayEnter; rw [h]; simp only [hs, hl, hb, hd, h4, List.contains_nil, Bool.not_false, Bool.or_true, Bool.and_self]
theorem lifts_gen (P : Program) (C : List Char) (R : List (List Char)) (h : behindMainWord (wordsSigns P.initOrder.toList) = C :: R) (h4 : (C == "carried".toList) = false) (hs : stripLifts liftWords (C :: R) = ([], C :: R)) : P.liftsFinal = false := by
  have h5 : ((C :: R).head? == some "carried".toList) = false := by
    rw [List.head?_cons]; exact h4
  unfold Program.liftsFinal Program.headLifts; rw [h]; simp only [hs, h5, Bool.false_and, Bool.false_or]
  split <;> rfl
theorem strip (R : List (List Char)) : stripLifts liftWords (ioC.map Char.ofNat :: R) = ([], ioC.map Char.ofNat :: R) := by kernel_rfl
theorem bh : behindMainWord (wordsSigns Try.checked.prog.initOrder.toList) = ioC.map Char.ofNat :: wordsSigns (ioR.map Char.ofNat) := by rw [words, behind]
theorem make_cut : Try.checked.prog.make = some Make.cut := make_gen _ _ _ bh (by kernel_rfl) (by kernel_rfl) (by kernel_rfl)
theorem may_enter : Try.checked.prog.mayEnter = true := may_gen _ _ _ bh (by kernel_rfl) (strip _) (by kernel_rfl) (by kernel_rfl) (by kernel_rfl)
theorem lifts_final : Try.checked.prog.liftsFinal = false := lifts_gen _ _ _ bh (by kernel_rfl) (strip _)
end Go.Proofs.Ytaclkccgjpjdjaa.Io
