/- 65536 bytes, an 'x' and blanks: two tokens; one more byte is the fault of size. -/
import Derived.Test.YtnnjanhibomijaaAx21
import Derived.Test.YtnnjanhibomijaaLexNext2
import Derived.Test.YtnnjanhibomijaaLexAwake
namespace Go.Proofs.Ytnnjanhibomijaa.Pure
open Go.RowKit Go.Proofs.Ytnnjanhibomijaa.A Go.Proofs.YtnnjanhibomijaaW.PrintWords Go.Proofs.Ytnnjanhibomijaa.LexImpl Go.Proofs.Ytnnjanhibomijaa.LexSpec

theorem skip_blanks : ∀ n, skip false (List.replicate n 32) = []
  | 0 => rfl
  | n + 1 => by rw [List.replicate_succ, skip, if_pos (by decide)]; exact skip_blanks n
theorem take_blanks (n : Nat) : (List.replicate n (32 : Int)).takeWhile isIn = [] := by
  cases n with
  | zero => rfl
  | succ n => rw [List.replicate_succ, List.takeWhile_cons, if_neg (by decide)]
theorem drop_blanks (n : Nat) : (List.replicate n (32 : Int)).dropWhile isIn = List.replicate n 32 := by
  cases n with
  | zero => rfl
  | succ n => rw [List.replicate_succ, List.dropWhile_cons, if_neg (by decide)]
theorem one_x (n : Nat) : one (120 :: List.replicate n 32) = some (1, [120], List.replicate n 32) := by
  unfold one
  simp only [take_blanks, drop_blanks]
  rw [if_pos (by decide), if_neg (by decide), if_pos (by decide)]
theorem skip_x (n : Nat) : skip false (120 :: List.replicate n 32) = 120 :: List.replicate n 32 := by
  rw [skip, if_neg (by decide), if_neg (by simp)]
theorem lex_x (n : Nat) : lex (120 :: List.replicate n 32) = .inr [(1, [120], 0), (0, [], n + 1)] := by
  unfold lex
  rw [List.length_cons, List.length_replicate, lexF, skip_x]
  simp only [one_x]
  rw [lexF, skip_blanks]
  simp
theorem byt_x (n : Nat) : Byt (120 :: List.replicate n 32) := by
  intro x hx
  rcases List.mem_cons.mp hx with h | h
  · omega
  · have := (List.mem_replicate.mp h).2; omega
theorem say_x (n : Nat) (h : n + 1 ≤ 65536) : tokensSay (120 :: List.replicate n 32) = ([⟨1, strOfNums [120], 0⟩, ⟨0, strOfNums [], ((n + 1 : Nat) : Int)⟩], 0, 0) := by
  unfold tokensSay
  rw [if_neg (by simp; omega), lex_x]
  rfl
theorem say_big (s : List Int) (h : s.length > 65536) : tokensSay s = ([], 2, 65536) := by
  unfold tokensSay
  rw [if_pos h]
theorem fills {N : Nat} (hN : N + 1 = 65536) : ∀ d i (x : List Int), x.length = i + d → i + d = N + 1 → x.take i = List.replicate i 32 →
    Ev (fun k => foliotlaw04_LexLong.l0 k x ((N + 1 : Nat) : Int) (i : Int)) true
  | 0, i, x, hx, hi, ht => by
    refine Ev.step' ?_
    unfold foliotlaw04_LexLong.l0
    have hx2 : x = List.replicate (N + 1) 32 := by rw [← hi, Nat.add_zero, ← ht, List.take_of_length_le (by omega)]
    have hset : x.set ((0 : Int).toNat) 120 = 120 :: List.replicate N 32 := by rw [hx2, List.replicate_succ]; rfl
    rw [hset]
    have hl : (120 :: List.replicate N (32 : Int)).length = N + 1 := by simp
    simp only [if_neg (show ¬ (i : Int) < ((N + 1 : Nat) : Int) from by omega), if_pos (show (0 : Int) < (x.length : Int) from by omega), Option.bind_some, hl]
    refine Ev.bind (tokens_ev (byt_x N)) ?_
    rw [say_x N (by omega)]
    simp only [if_pos (show N + 1 < 140737488355328 from by omega)]
    have hb : Byt (120 :: List.replicate N 32 ++ [32]) := by
      intro y hy
      rcases List.mem_append.mp hy with h | h
      · exact byt_x N y h
      · have := List.mem_singleton.mp h; omega
    refine Ev.bind (tokens_ev hb) ?_
    rw [say_big _ (by simp; omega)]
    have e2 : (rd_T31 [(⟨1, strOfNums [120], 0⟩ : S31), ⟨0, strOfNums [], ((N + 1 : Nat) : Int)⟩] 1).f2 = ((N + 1 : Nat) : Int) := rfl
    simp only [e2, List.length_cons, List.length_nil]
    rw [hN]
    exact Ev.bind awake_ev (Ev.now _)
  | d + 1, i, x, hx, hi, ht => by
    refine Ev.step' ?_
    unfold foliotlaw04_LexLong.l0
    have hw : wrap64 ((i : Int) + 1) = ((i + 1 : Nat) : Int) := by rw [show ((i : Int) + 1) = ((i + 1 : Nat) : Int) from by omega]; unfold wrap64; omega
    simp only [if_pos (show (i : Int) < ((N + 1 : Nat) : Int) from by omega), if_pos (show (0 : Int) ≤ (i : Int) from by omega), if_pos (show (i : Int) < (x.length : Int) from by omega), hw, Int.toNat_natCast]
    refine fills hN d (i + 1) _ (by rw [List.length_set]; omega) (by omega) ?_
    rw [List.take_add_one, List.take_set_of_le (Nat.le_refl _), ht, List.getElem?_set_self (by omega), List.replicate_succ']
    rfl
theorem LexLong : foliotlaw04_LexLong.Pure := by
  refine Ev.rounds (g := fun k => foliotlaw04_LexLong.f k) ?_
  unfold foliotlaw04_LexLong.f
  have e0 : ∀ (a b : Option Bool), (if 65536 ≤ 281474976710656 then a else b) = a := fun a b => if_pos (by decide)
  simp only [e0]
  obtain ⟨N, hN⟩ : ∃ N : Nat, N + 1 = 65536 := ⟨65535, rfl⟩
  rw [← hN]
  simp only [Option.bind_some, List.length_replicate]
  exact fills hN (N + 1) 0 _ (by simp) (by omega) (by simp)
end Go.Proofs.Ytnnjanhibomijaa.Pure
