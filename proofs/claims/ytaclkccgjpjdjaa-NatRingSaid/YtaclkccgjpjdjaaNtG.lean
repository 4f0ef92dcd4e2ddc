/- The nat functions as they are printed tell the numbers that they should: Parse. -/
import Derived.Test.YtaclkccgjpjdjaaNtF
import Derived.Lib.IndexBytes
import Derived.Test.YtaclkccgjpjdjaaNx6
namespace Go.Proofs.Ytaclkccgjpjdjaa.Nt
open Go.RowKit Go.Proofs.YtaclkccgjpjdjaaW.PrintWords Go.Proofs.YtaclkccgjpjdjaaW.PrintMore Go.Proofs.Ytaclkccgjpjdjaa.N
set_option linter.unusedVariables false
set_option linter.unusedSimpArgs false
/-- digits behind a number -/
def numL (l : List Int) (v : Nat) : Nat := l.foldl (fun v c => v * 10 + (c - 48).toNat) v
theorem numL_nil (v : Nat) : numL [] v = v := rfl
theorem numL_cons (c : Int) (l : List Int) (v : Nat) : numL (c :: l) v = numL l (v * 10 + (c - 48).toNat) := rfl
theorem numL_append (l m : List Int) (v : Nat) : numL (l ++ m) v = numL m (numL l v) := by simp [numL]
theorem numL_add (l : List Int) : ∀ v : Nat, numL l v = v * 10 ^ l.length + numL l 0 := by
  induction l with
  | nil => intro v; simp [numL_nil]
  | cons c l ih =>
    intro v
    rw [numL_cons, numL_cons, ih, ih (0 * 10 + _), List.length_cons, Nat.pow_succ]
    grind
def Dig (l : List Int) : Prop := ∀ c ∈ l, 48 ≤ c ∧ c ≤ 57
theorem numL_lt {l : List Int} (h : Dig l) : numL l 0 < 10 ^ l.length := by
  induction l with
  | nil => simp [numL_nil]
  | cons c l ih =>
    have hc := h c (by simp)
    have hl := ih (fun x hx => h x (by simp [hx]))
    rw [numL_cons, numL_add, List.length_cons, Nat.pow_succ]
    have h1 : (0 * 10 + (c - 48).toNat) ≤ 9 := by omega
    have h2 : (0 * 10 + (c - 48).toNat) * 10 ^ l.length ≤ 9 * 10 ^ l.length := Nat.mul_le_mul_right _ h1
    omega
theorem bytesOf_drop (s : ByteArray) (n : Nat) : bytesOf (s.extract n s.size) = (bytesOf s).drop n := by
  unfold bytesOf; rw [Lib.extract_to_end, List.map_drop]
theorem bytesOf_size (s : ByteArray) : s.size = (bytesOf s).length := (bytesOf_length s).symm
theorem parse_l : ∀ (d : Nat) (s : ByteArray) (v : Nat), s.size ≤ d → Dig (bytesOf s) → (ofN v).length + 3 * s.size < 1000000000 →
    Ev (fun k => nat_Parse.l0 k s (ofN v)) (ofN (numL (bytesOf s) v), 0) := by
  intro d
  induction d with
  | zero =>
    intro s v hd _ _
    have hs : bytesOf s = [] := List.eq_nil_of_length_eq_zero (by rw [← bytesOf_size]; omega)
    refine Ev.step (f := fun _ => some (ofN v, 0)) (fun k => ?_) (by rw [hs, numL_nil]; exact Ev.now _)
    simp only [nat_Parse.l0]; rw [if_neg (by omega)]
  | succ d ih =>
    intro s v hd hg hb
    have hsz := bytesOf_size s
    by_cases h0 : s.size = 0
    · exact ih s v (by omega) hg hb
    · generalize hn : min 9 s.size = n
      have hn9 : n ≤ 9 ∧ n ≤ s.size ∧ 1 ≤ n := by omega
      have emn : mn 9 (s.size : Int) = (n : Int) := by unfold mn; split <;> omega
      have key : ∀ (j i : Nat), i + j = n → Ev (fun k => nat_Parse.l1 k s (ofN v) (n : Int) ((numL ((bytesOf s).take i) 0 : Nat) : Int) ((10 ^ i : Nat) : Int) (n : Int) (i : Int)) (ofN (numL (bytesOf s) v), 0) := by
        intro j
        induction j with
        | zero =>
          intro i hi
          obtain rfl : i = n := by omega
          have hdt : Dig ((bytesOf s).take i) := fun c hc => hg c (List.mem_of_mem_take hc)
          have hlt := numL_lt hdt
          have hl9 : ((bytesOf s).take i).length = i := by rw [List.length_take]; omega
          rw [hl9] at hlt
          have hp9 : 10 ^ i ≤ 10 ^ 9 := Nat.pow_le_pow_right (by omega) hn9.1
          have hp9' : 10 ^ i ≤ 1000000000 := hp9
          have hm := mul_ev (a := ofN v) (b := [((10 ^ i : Nat) : Int)]) (lim_ofN v) (lim_cons.2 ⟨by omega, lim_nil⟩) (by simp; omega)
          rw [val_ofN, val_cons, val_nil, Int.toNat_natCast, Nat.mul_zero, Nat.add_zero] at hm
          have hlm := len_mul v (10 ^ i)
          have hl1 : (ofN (10 ^ i)).length ≤ 1 := len_ofN_le (by omega)
          have ha := add_ev (a := ofN (v * 10 ^ i)) (b := [((numL ((bytesOf s).take i) 0 : Nat) : Int)]) (lim_ofN _) (lim_cons.2 ⟨by omega, lim_nil⟩) (by omega) (by simp)
          rw [val_ofN, val_cons, val_nil, Int.toNat_natCast, Nat.mul_zero, Nat.add_zero] at ha
          have hla := len_add (v * 10 ^ i) (numL ((bytesOf s).take i) 0)
          have hl2 : (ofN (numL ((bytesOf s).take i) 0)).length ≤ 1 := len_ofN_le (by omega)
          have hsz2 : (s.extract i s.size).size = s.size - i := by rw [bytesOf_size, bytesOf_drop, List.length_drop]; omega
          have hr := ih (s.extract i s.size) (v * 10 ^ i + numL ((bytesOf s).take i) 0) (by omega) (by rw [bytesOf_drop]; exact fun c hc => hg c (List.mem_of_mem_drop hc)) (by rw [hsz2]; omega)
          have e : numL (bytesOf (s.extract i s.size)) (v * 10 ^ i + numL ((bytesOf s).take i) 0) = numL (bytesOf s) v := by
            have h1 := numL_append ((bytesOf s).take i) ((bytesOf s).drop i) v
            rw [List.take_append_drop] at h1
            rw [h1, numL_add ((bytesOf s).take i) v, hl9, bytesOf_drop]
          rw [e] at hr
          refine Ev.step (f := fun k => (nat_Mul.f k (ofN v) [((10 ^ i : Nat) : Int)]).bind fun t => (nat_Add.f k t [((numL ((bytesOf s).take i) 0 : Nat) : Int)]).bind fun t2 => nat_Parse.l0 k (s.extract i s.size) t2) (fun k => ?_) (Ev.bind hm (Ev.bind ha hr))
          simp only [nat_Parse.l1]
          rw [if_neg (by omega)]
          congr 1; funext t; congr 1; funext t2
          rw [if_pos (by omega), if_pos (by omega), Int.toNat_natCast]
        | succ j ihj =>
          intro i hi
          have hil : i < (bytesOf s).length := by omega
          have hc := hg _ (List.getElem_mem hil)
          have et : (bytesOf s).take (i + 1) = (bytesOf s).take i ++ [(bytesOf s)[i]] := by rw [List.take_succ_eq_append_getElem hil]
          have hdt : Dig ((bytesOf s).take (i + 1)) := fun c hc => hg c (List.mem_of_mem_take hc)
          have hlt := numL_lt hdt
          have hl9 : ((bytesOf s).take (i + 1)).length = i + 1 := by rw [List.length_take]; omega
          rw [hl9] at hlt
          have hp9 : 10 ^ (i + 1) ≤ 10 ^ 9 := Nat.pow_le_pow_right (by omega) (by omega)
          have hp9' : 10 ^ (i + 1) ≤ 1000000000 := hp9
          have h := ihj (i + 1) (by omega)
          have eb : bt s (i : Int) = (bytesOf s)[i] := by rw [← rd_bytesOf]; simp [rd, hil]
          rw [et, numL_append, numL_cons, numL_nil] at h hlt
          generalize (bytesOf s)[i] = c at *
          generalize numL ((bytesOf s).take i) 0 = w at *
          refine Ev.step (fun k => ?_) h
          simp only [nat_Parse.l1]
          rw [if_pos (by omega), if_pos (by omega), if_pos (by omega), eb, w64 (by omega) (by omega)]
          have ep : 10 ^ (i + 1) = 10 ^ i * 10 := Nat.pow_succ ..
          congr 1 <;> omega
      have h := key n 0 (by omega)
      refine Ev.step (fun k => ?_) h
      simp only [nat_Parse.l0]
      rw [if_pos (by omega), emn]
      rfl
/-- what a text says, as a number -/
def parsed (s : ByteArray) : List Int × Int :=
  if s.size = 0 ∨ (bytesOf s).any slices_ContainsFunc_byte_byte.strange = true then ([], 4) else if s.size > 300 then ([], 2) else (ofN (numL (bytesOf s) 0), 0)
theorem toList_loop (b : ByteArray) : ∀ (n i : Nat) (r : List UInt8), n = b.size - i → ByteArray.toList.loop b i r = r.reverse ++ b.data.toList.drop i := by
  intro n
  induction n with
  | zero =>
    intro i r h
    unfold ByteArray.toList.loop
    rw [if_neg (by omega), List.drop_eq_nil_of_le (by rw [data_length]; omega), List.append_nil]
  | succ n ih =>
    intro i r h
    have hi : i < b.data.toList.length := by rw [data_length]; omega
    unfold ByteArray.toList.loop
    rw [if_pos (by omega), ih (i + 1) _ (by omega), List.drop_eq_getElem_cons hi]
    simp [ByteArray.get!]
    exact getElem!_pos b.data i (by simpa using hi)
theorem toList_eq (b : ByteArray) : b.toList = b.data.toList := by
  unfold ByteArray.toList; rw [toList_loop b (b.size - 0) 0 [] rfl]; simp
theorem toList_nil {b : ByteArray} : b.toList = [] ↔ b.size = 0 := by
  rw [toList_eq, ← data_length]; exact List.length_eq_zero_iff.symm
theorem dig_of {l : List Int} (h : ¬ l.any slices_ContainsFunc_byte_byte.strange = true) : Dig l := by
  intro c hc
  have h2 : slices_ContainsFunc_byte_byte.strange c = false := by
    cases hs : slices_ContainsFunc_byte_byte.strange c with
    | false => rfl
    | true => exact absurd (List.any_eq_true.2 ⟨c, hc, hs⟩) h
  simp only [slices_ContainsFunc_byte_byte.strange, Bool.or_eq_false_iff, decide_eq_false_iff_not] at h2
  omega
theorem parse_ev {s : ByteArray} (h : s.size ≤ 140737488351232) : Ev (fun k => nat_Parse.f k s) (parsed s) := by
  unfold nat_Parse.f parsed
  by_cases h0 : s.size = 0
  · rw [if_pos (Or.inl h0)]
    exact Ev.congr (fun k => by rw [if_pos h, if_pos (toList_nil.2 h0)]) (Ev.now _)
  · have h0' : ¬ s.toList = [] := fun e => h0 (toList_nil.1 e)
    by_cases ha : (bytesOf s).any slices_ContainsFunc_byte_byte.strange = true
    · rw [if_pos (Or.inr ha)]
      exact Ev.congr (fun k => by rw [if_pos h, if_neg h0', if_pos ha]) (Ev.now _)
    · rw [if_neg (fun e => e.elim h0 ha)]
      by_cases h3 : s.size > 300
      · rw [if_pos h3]
        refine Ev.congr (f := fun _ => some ([], 2)) (fun k => ?_) (Ev.now _)
        rw [if_pos h, if_neg h0', if_neg ha]; unfold nat_Parse.g; rw [if_pos (by omega)]
      · rw [if_neg h3]
        have hp := parse_l s.size s 0 (Nat.le_refl _) (dig_of ha) (by rw [ofN_zero]; simp; omega)
        refine Ev.congr (fun k => ?_) hp
        rw [if_pos h, if_neg h0', if_neg ha]; unfold nat_Parse.g; rw [if_neg (by omega)]; rfl
end Go.Proofs.Ytaclkccgjpjdjaa.Nt
