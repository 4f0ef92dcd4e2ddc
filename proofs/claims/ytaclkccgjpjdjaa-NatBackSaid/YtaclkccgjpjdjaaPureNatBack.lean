/- NatBack: for any number of at most 12 limbs and any text of at most 400 bytes, what is printed is parsed as that number, and what is parsed from the text is printed with the text's digits, but for noughts ahead. No condition but the machine's own bounds. -/
import Derived.Test.YtaclkccgjpjdjaaNaBase
import Derived.Test.YtaclkccgjpjdjaaAx2
namespace Go.Proofs.Ytaclkccgjpjdjaa.Pure
open Go.RowKit Go.Proofs.Ytaclkccgjpjdjaa.A Go.Proofs.YtaclkccgjpjdjaaW.PrintWords Go.Proofs.YtaclkccgjpjdjaaW.PrintLast Go.Proofs.Ytaclkccgjpjdjaa.Nt Go.Proofs.Ytaclkccgjpjdjaa.Na
set_option linter.unusedVariables false
set_option linter.unusedSimpArgs false
/-- digits pushed, read the other way round -/
theorem low_dig (n : Nat) : Dig (low n) := by
  induction n using Nat.strongRecOn with
  | _ n ih =>
    by_cases h : n = 0
    · subst h; intro c hc; cases hc
    · rw [low_pos h]
      intro c hc
      rcases List.mem_cons.1 hc with rfl | hc
      · omega
      · exact ih (n / 10) (by omega) c hc
theorem numL_low (n : Nat) : numL (low n).reverse 0 = n := by
  induction n using Nat.strongRecOn with
  | _ n ih =>
    by_cases h : n = 0
    · subst h; rfl
    · rw [low_pos h, List.reverse_cons, numL_append, ih (n / 10) (by omega), numL_cons, numL_nil]
      omega
/-- digits that are told again: those behind the noughts ahead -/
theorem low_numL : ∀ (l : List Int), Dig l → (∀ x, l.head? = some x → x ≠ 48) → low (numL l 0) = l.reverse := by
  intro l
  induction hn : l.length generalizing l with
  | zero =>
    intro _ _
    obtain rfl : l = [] := List.eq_nil_of_length_eq_zero hn
    rfl
  | succ n ih =>
    intro hd hh
    obtain ⟨r, y, e, hl⟩ : ∃ r y, l = r ++ [y] ∧ r.length = n := ⟨l.dropLast, l.getLast (by intro e; rw [e] at hn; simp at hn), (List.dropLast_concat_getLast _).symm, by simp; omega⟩
    subst e
    have hy := hd y (by simp)
    have hr : Dig r := fun c hc => hd c (by simp [hc])
    rw [numL_append, numL_cons, numL_nil, List.reverse_append]
    cases r with
    | nil =>
      have hy48 := hh y (by simp)
      rw [numL_nil]
      have h9 : 0 * 10 + (y - 48).toNat ≠ 0 := by omega
      rw [low_pos h9, show (0 * 10 + (y - 48).toNat) / 10 = 0 by omega, low_zero]
      simp; omega
    | cons c r =>
      have hc := hr c (by simp)
      have hc48 := hh c (by simp)
      have ih' := ih (c :: r) hl hr (fun x hx => hh x (by simpa using hx))
      have hne : numL (c :: r) 0 * 10 + (y - 48).toNat ≠ 0 := by
        intro e
        have h0 : numL (c :: r) 0 = 0 := by omega
        rw [h0] at ih'
        have := congrArg List.length ih'
        simp [low_zero] at this
      rw [low_pos hne, show (numL (c :: r) 0 * 10 + (y - 48).toNat) % 10 = (y - 48).toNat by omega, show (numL (c :: r) 0 * 10 + (y - 48).toNat) / 10 = numL (c :: r) 0 by omega, ih']
      simp; omega
theorem numL_zeros (k : Nat) (l : List Int) : numL (List.replicate k 48 ++ l) 0 = numL l 0 := by
  induction k with
  | zero => rfl
  | succ k ih => rw [List.replicate_succ, List.cons_append, numL_cons]; exact ih
theorem bytesOf_str {l : List Int} (h : ∀ c ∈ l, 0 ≤ c ∧ c < 256) : bytesOf (strOfNums l) = l := by
  unfold bytesOf
  rw [strOfNums_data, List.map_map]
  conv => rhs; rw [← List.map_id l]
  apply List.map_congr_left
  intro c hc
  have := h c hc
  simp
  omega
theorem dig_byte {l : List Int} (h : Dig l) : ∀ c ∈ l, 0 ≤ c ∧ c < 256 := fun c hc => by have := h c hc; omega
theorem strange_dig {l : List Int} (h : Dig l) : l.any N.slices_ContainsFunc_byte_byte.strange = false := by
  rw [List.any_eq_false]
  intro c hc
  have := h c hc
  simp [N.slices_ContainsFunc_byte_byte.strange]; omega
theorem bytesOf_text (n : Nat) : bytesOf (text n) = if n = 0 then [48] else (low n).reverse := by
  unfold text told
  by_cases h : n = 0
  · subst h; rw [if_pos rfl, if_pos low_zero]; rfl
  · rw [if_neg (fun e => h (low_nil.1 e)), if_neg h, bytesOf_str (fun c hc => dig_byte (low_dig n) c (by rw [List.mem_reverse] at hc; exact hc))]
theorem parsed_dig {s : ByteArray} (hd : Dig (bytesOf s)) (h0 : s.size ≠ 0) (h3 : s.size ≤ 300) : parsed s = (ofN (numL (bytesOf s) 0), 0) := by
  unfold parsed
  rw [if_neg (fun e => e.elim h0 (fun e => by rw [strange_dig hd] at e; cases e)), if_neg (by omega)]
theorem parsed_text {n : Nat} (h : (low n).length ≤ 300) : parsed (text n) = (ofN n, 0) := by
  have hb := bytesOf_text n
  have hs := bytesOf_size (text n)
  by_cases h0 : n = 0
  · rw [if_pos h0] at hb
    rw [hb] at hs
    rw [parsed_dig (by rw [hb]; intro c hc; simp at hc; subst hc; omega) (by rw [hs]; decide) (by rw [hs]; decide), hb, h0]; rfl
  · rw [if_neg h0] at hb
    have hl : (low n).length ≠ 0 := fun e => h0 (low_nil.1 (List.eq_nil_of_length_eq_zero e))
    rw [hb, List.length_reverse] at hs
    rw [parsed_dig (by rw [hb]; intro c hc; exact low_dig n c (by rw [List.mem_reverse] at hc; exact hc)) (by omega) (by omega), hb, numL_low]
theorem bytesOf_inj {s t : ByteArray} (h : bytesOf s = bytesOf t) : s.toList = t.toList := by
  rw [toList_eq, toList_eq]
  unfold bytesOf at h
  exact List.map_inj_right (fun x y hxy => by
    have : x.toNat = y.toNat := by omega
    exact UInt8.toNat_inj.1 this) |>.1 h
theorem back_end {a : List Int} (fa : fits a) (la : a.length ≤ 12) (s : ByteArray) : Ev (fun k => (foliotref01_Same.f k (ofN (val a)) (ofN (val a))).bind fun t => if t = true then (foliotlaw01_awake.f k).bind fun t => some t else none) true := by
  have hl := len_val_le fa.1
  refine Ev.bind (same_of (by omega) rfl) ?_
  simp only [if_true]
  exact Ev.bind awake_ev (Ev.now _)
theorem back_l {a : List Int} (fa : fits a) (la : a.length ≤ 12) {s : ByteArray} (hs : s.size ≤ 300) (hd : Dig (bytesOf s)) (h0 : s.size ≠ 0) (x y : List Int) (hx : x = ofN (val a)) (hy : y = ofN (numL (bytesOf s) 0)) : ∀ (l : List Int) (i : Nat), (bytesOf s).drop i = l → l ≠ [] → numL l 0 = numL (bytesOf s) 0 →
    Ev (fun k => foliotlaw01_NatBack.l0 k a s x 0 y (i : Int)) true := by
  have hsz := bytesOf_size s
  have hend : ∀ (l : List Int) (i : Nat), (bytesOf s).drop i = l → numL l 0 = numL (bytesOf s) 0 → i < s.size → (∀ c, l.head? = some c → c ≠ 48 ∨ l.length = 1) → Ev (fun k => foliotlaw01_NatBack.j2 k a s x 0 y (i : Int)) true := by
    intro l i hl hn hi hh
    have fy : fits (ofN (numL (bytesOf s) 0)) := by
      refine fits_ofN ?_
      have h1 := numL_lt hd
      have h2 : (10 : Nat) ^ (bytesOf s).length ≤ 4294967296 ^ (bytesOf s).length := Nat.pow_le_pow_left (by decide) _
      have := len_ofN_le (Nat.lt_of_lt_of_le h1 h2)
      omega
    have hpr := print_at fy
    rw [val_ofN] at hpr
    have hdl : Dig l := fun c hc => hd c (by rw [← hl] at hc; exact List.mem_of_mem_drop hc)
    have htx : (text (numL (bytesOf s) 0)).toList = (s.extract i s.size).toList := by
      apply bytesOf_inj
      rw [bytesOf_drop, hl, bytesOf_text, ← hn]
      by_cases hz : ∀ c, l.head? = some c → c ≠ 48
      · have e := low_numL l hdl hz
        have hne : numL l 0 ≠ 0 := by
          intro e0
          rw [e0, low_zero] at e
          have := congrArg List.length e
          simp at this
          rw [← hl, List.length_drop] at this
          omega
        rw [if_neg hne, e, List.reverse_reverse]
      · have h1 : ∃ c, l = [c] ∧ c = 48 := by
          cases l with
          | nil => exact absurd (fun c hc => by cases hc) hz
          | cons c r =>
            have hc48 : c = 48 := by
              by_cases e : c = 48
              · exact e
              · exact absurd (fun c' hc' => by simp at hc'; subst hc'; exact e) hz
            rcases hh c (by simp) with h | h
            · exact absurd hc48 h
            · simp at h; subst h; exact ⟨c, rfl, hc48⟩
        obtain ⟨c, rfl, rfl⟩ := h1
        rfl
    have ht := trim_at fa
    refine Ev.step (f := fun k => (foliotref01_Same.f k (ofN (val a)) (ofN (val a))).bind fun t => if t = true then (foliotlaw01_awake.f k).bind fun t => some t else none) (fun k => ?_) (back_end fa la s)
    simp only [foliotlaw01_NatBack.j2]
    rw [hy, hpr, Option.bind_some, if_pos (by omega), if_pos (by omega), Int.toNat_natCast, if_pos htx, if_pos trivial, ht, Option.bind_some, hx]
  intro l
  induction l with
  | nil => intro i _ h; exact absurd rfl h
  | cons c l ih =>
    intro i hl _ hn
    obtain ⟨e1, e2, e3⟩ := rd_drop hl
    have ebt : bt s (i : Int) = c := by rw [← rd_bytesOf]; exact e1
    have hlen := congrArg List.length hl
    rw [List.length_drop, List.length_cons] at hlen
    cases l with
    | nil =>
      refine Ev.step (f := fun k => foliotlaw01_NatBack.j2 k a s x 0 y (i : Int)) (fun k => ?_) (hend [c] i hl hn (by omega) (fun _ _ => .inr rfl))
      simp only [List.length_nil] at hlen
      simp only [foliotlaw01_NatBack.l0]
      rw [w64 (by omega) (by omega), if_neg (by omega)]
    | cons c2 l =>
      simp only [List.length_cons] at hlen
      by_cases hc : c = 48
      · have h := ih (i + 1) e3 (by simp) (by rw [← hn, hc, numL_cons]; rfl)
        refine Ev.step (f := fun k => foliotlaw01_NatBack.l0 k a s x 0 y ((i + 1 : Nat) : Int)) (fun k => ?_) h
        simp only [foliotlaw01_NatBack.l0]
        rw [w64 (by omega) (by omega), if_pos (by omega), if_pos (by omega), if_pos (by omega), ebt, if_pos hc]
        rfl
      · refine Ev.step (f := fun k => foliotlaw01_NatBack.j2 k a s x 0 y (i : Int)) (fun k => ?_) (hend (c :: c2 :: l) i hl hn (by omega) (fun c' hc' => by simp at hc'; subst hc'; exact .inl hc))
        simp only [foliotlaw01_NatBack.l0]
        rw [w64 (by omega) (by omega), if_pos (by omega), if_pos (by omega), if_pos (by omega), ebt, if_neg hc]
theorem NatBack_j {a : List Int} (fa : fits a) (la : a.length ≤ 12) {s : ByteArray} (hs : s.size ≤ 400) : Ev (fun k => foliotlaw01_NatBack.j0 k a s false) true := by
  have lenA := len_val_le fa.1
  have lowA := low_ofN (val a)
  have p1 := print_at fa
  have hsz : (text (val a)).size ≤ 140737488351232 := by
    rw [bytesOf_size, bytesOf_text]
    split
    · decide
    · rw [List.length_reverse]; omega
  have p2 := parse_at hsz
  rw [parsed_text (by omega)] at p2
  have p3 := parse_at (s := s) (by omega)
  have ht := trim_at fa
  have hcase : (parsed s).2 ≠ 0 ∨ parsed s = (ofN (numL (bytesOf s) 0), 0) ∧ s.size ≠ 0 ∧ s.size ≤ 300 ∧ Dig (bytesOf s) := by
    unfold parsed
    by_cases h0 : s.size = 0 ∨ (bytesOf s).any N.slices_ContainsFunc_byte_byte.strange = true
    · left; rw [if_pos h0]; decide
    · rw [if_neg h0]
      by_cases h3 : s.size > 300
      · left; rw [if_pos h3]; decide
      · right; rw [if_neg h3]
        exact ⟨rfl, fun e => h0 (.inl e), by omega, dig_of (fun e => h0 (.inr e))⟩
  rcases hcase with h | ⟨h, h0, h3, hd⟩
  · refine Ev.step (f := fun k => (foliotref01_Same.f k (ofN (val a)) (ofN (val a))).bind fun t => if t = true then (foliotlaw01_awake.f k).bind fun t => some t else none) (fun k => ?_) (back_end fa la s)
    simp only [foliotlaw01_NatBack.j0, Bool.false_eq_true, if_false]
    rw [p1, Option.bind_some, p2, Option.bind_some, p3, Option.bind_some, if_neg h, if_pos rfl, ht, Option.bind_some]
  · have hb := back_l fa la h3 hd h0 (ofN (val a)) (ofN (numL (bytesOf s) 0)) rfl rfl (bytesOf s) 0 rfl (fun e => h0 (by rw [bytesOf_size, e]; rfl)) rfl
    refine Ev.step (fun k => ?_) hb
    simp only [foliotlaw01_NatBack.j0, Bool.false_eq_true, if_false]
    rw [p1, Option.bind_some, p2, Option.bind_some, p3, Option.bind_some, h, if_pos rfl]
    rfl
theorem NatBack : foliotlaw01_NatBack.Pure := by
  intro a s _ _ ha hs
  apply Ev.rounds (r := true)
  have la := lim_of ha
  unfold foliotlaw01_NatBack.f
  rw [few_at]
  simp only [Option.bind_some, List.length_nil]
  have hno : Ev (fun k => foliotlaw01_NatBack.j0 k a s true) true := Ev.step (f := fun _ => some true) (fun k => by simp [foliotlaw01_NatBack.j0]) (Ev.now _)
  by_cases h12 : a.length ≤ 12
  · simp only [h12, decide_true, Nat.zero_le, Bool.and_self, if_true]
    by_cases h4 : (s.size : Int) > 400
    · rw [decide_eq_true h4]; exact hno
    · rw [decide_eq_false h4]; exact NatBack_j (fits_of la (by omega)) h12 (by omega)
  · simp only [h12, decide_false, Bool.false_and, Bool.false_eq_true, if_false]
    exact hno
end Go.Proofs.Ytaclkccgjpjdjaa.Pure
