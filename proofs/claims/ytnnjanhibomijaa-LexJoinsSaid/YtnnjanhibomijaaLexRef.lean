/- What the reference's lexer answers, in LexSpec's words. -/
import Derived.Test.YtnnjanhibomijaaAx16
import Derived.Test.YtnnjanhibomijaaAx17
import Derived.Test.YtnnjanhibomijaaLexNext2
namespace Go.Proofs.Ytnnjanhibomijaa.LexImpl
open Go.RowKit Go.Proofs.Ytnnjanhibomijaa.A Go.Proofs.YtnnjanhibomijaaW.PrintWords Go.Proofs.Ytnnjanhibomijaa.LexSpec

theorem bytesOf_str {s : List Int} (hs : Byt s) : bytesOf (strOfNums s) = s := by
  unfold bytesOf
  rw [strOfNums_data, List.map_map]
  conv => rhs; rw [← List.map_id s]
  apply List.map_congr_left
  intro x hx
  have := hs x hx
  simp only [Function.comp, UInt8.toNat_ofNat', id]
  omega
theorem bt_str {s : List Int} (hs : Byt s) (i : Int) : bt (strOfNums s) i = rd s i := by
  rw [← rd_bytesOf, bytesOf_str hs]
theorem str_size (s : List Int) : ((strOfNums s).size : Int) = s.length := by rw [strOfNums_size]

theorem small_eq (c : Int) : foliotref04_small.f c = some (isSmall c) := by
  unfold foliotref04_small.f isSmall
  by_cases h1 : c ≥ 97 <;> by_cases h2 : c ≤ 122 <;> simp [h1, h2]
  all_goals first | omega | skip
  all_goals (have : ¬ (97 ≤ c) := h1; simp [this])
theorem large_eq (c : Int) : foliotref04_large.f c = some (isLarge c) := by
  unfold foliotref04_large.f isLarge
  by_cases h1 : c ≥ 65 <;> simp [h1]
  all_goals (have : ¬ (65 ≤ c) := h1; simp [this])
theorem digit_eq (c : Int) : foliotref04_digit.f c = some (isDigit c) := by
  unfold foliotref04_digit.f isDigit
  by_cases h1 : c ≥ 48 <;> simp [h1]
  all_goals (have : ¬ (48 ≤ c) := h1; simp [this])

/-- a text stands at the beginning of a rest -/
theorem extract_str (s : List Int) (a b : Nat) : ((strOfNums s).extract a b).toList = Lib.bytesOf ((s.take b).drop a) := by
  rw [Lib.toList_data, Lib.bytesOf_drop, Lib.bytesOf_take]
  unfold Lib.bytesOf
  rw [← strOfNums_data]
  rw [List.drop_take]
  simp [ByteArray.data_extract]
theorem byt_str_inj {s t : List Int} (hs : Byt s) (ht : Byt t) : (Lib.bytesOf s == Lib.bytesOf t) = (s == t) := by
  rw [Bool.eq_iff_iff, beq_iff_eq, beq_iff_eq]
  constructor
  · intro h
    exact bytes_inj hs ht (by rw [Lib.strOfNums_toList, Lib.strOfNums_toList]; exact h)
  · rintro rfl; rfl
theorem take_eq_prefix (t l : List Int) : (l.take t.length == t) = t.isPrefixOf l := by
  induction t generalizing l with
  | nil => simp
  | cons a t ih => cases l with
    | nil => simp [List.isPrefixOf]
    | cons b l => simp only [List.length_cons, List.take_succ_cons, List.isPrefixOf, List.cons_beq_cons, ih]; rw [Bool.beq_comm]
theorem begins_eq {s l t : List Int} (hs : Byt s) (ht : Byt t) (hl : l <:+ s) (hn : s.length ≤ 140737488351232) (htl : t.length ≤ 100) : foliotref04_begins.f (strOfNums s) (pos s l) (strOfNums t) = some (t.isPrefixOf l) := by
  unfold foliotref04_begins.f
  rw [str_size, str_size]
  obtain ⟨p, rfl⟩ := hl
  have e : pos (p ++ l) l = (p.length : Int) := by unfold pos; simp
  rw [e]
  simp only [List.length_append] at hn ⊢
  have w : wrap64 ((p.length : Int) + (t.length : Int)) = ((p.length + t.length : Nat) : Int) := by unfold wrap64; omega
  rw [w]
  by_cases h : t.length ≤ l.length
  · rw [if_pos (by omega), if_pos (by omega), if_pos (by omega), Int.toNat_natCast, Int.toNat_natCast, extract_str, Lib.strOfNums_toList, byt_str_inj (fun x hx => hs x (List.mem_of_mem_take (List.mem_of_mem_drop hx))) ht]
    rw [List.drop_take, List.drop_left' rfl, Nat.add_sub_cancel_left, take_eq_prefix]
  · rw [if_neg (by omega)]
    have : t.isPrefixOf l = false := by
      rw [Bool.eq_false_iff]
      intro hp
      exact h (List.IsPrefix.length_le (List.isPrefixOf_iff_prefix.1 hp))
    rw [this]

theorem blank_ev {s : List Int} (hs : Byt s) (hn : s.length ≤ 140737488351232) : ∀ l, l <:+ s →
    Ev (fun k => foliotref04_blank.l0 k (strOfNums s) (pos s l)) (pos s (skip false l)) ∧ Ev (fun k => foliotref04_blank.l1 k (strOfNums s) (pos s l)) (pos s (skip true l))
  | [], h => by
    have e0 : Ev (fun k => foliotref04_blank.l0 k (strOfNums s) (pos s [])) (pos s (skip false [])) := by
      refine Ev.step' ?_
      simp only [foliotref04_blank.l0, pos_nil, str_size, Int.lt_irrefl, if_false, skip]
      exact Ev.now _
    refine ⟨e0, Ev.step' ?_⟩
    simp only [foliotref04_blank.l1, pos_nil, str_size, Int.lt_irrefl, if_false, skip]
    simpa only [pos_nil, skip] using e0
  | c :: r, h => by
    obtain ⟨h0, h1, h2, h3, h4⟩ := at_cons h hn
    obtain ⟨i0, i1⟩ := blank_ev hs hn r h4
    have hb := bt_str hs (pos s (c :: r))
    rw [h2] at hb
    have hbeg := begins_eq (t := [45, 45]) hs (by unfold Byt; decide) h hn (by decide)
    rw [show strOfNums [45, 45] = (⟨#[45, 45]⟩ : ByteArray) from rfl] at hbeg
    have hsz := str_size s
    have main : ∀ (x : Bool), x = isBlank c → (isBlank c = false → c = 45 → r.head? = some 45 → Ev (fun k => foliotref04_blank.l1 k (strOfNums s) (pos s (c :: r))) (pos s (skip true (c :: r)))) → Ev (fun k => foliotref04_blank.j1 k (strOfNums s) (pos s (c :: r)) x) (pos s (skip false (c :: r))) := by
      intro x hx hl
      refine Ev.step' ?_
      subst hx
      by_cases e : isBlank c = true
      · simp only [foliotref04_blank.j1, e, if_true, h3, skip]; exact i0
      · have e' : isBlank c = false := by simpa using e
        simp only [foliotref04_blank.j1, e', Bool.false_eq_true, if_false]
        rw [hbeg]
        simp only [Option.bind_some]
        by_cases e2 : c = 45 ∧ r.head? = some 45
        · have hp : ([45, 45] : List Int).isPrefixOf (c :: r) = true := by
            obtain ⟨rfl, e3⟩ := e2
            cases r with
            | nil => cases e3
            | cons d r => simp at e3; subst e3; simp [List.isPrefixOf]
          have hd : skip true (c :: r) = skip false (c :: r) := by
            simp only [skip, e2.1, e2.2]; simp [isBlank]
          rw [hp, ← hd]
          simp only [if_true]
          exact hl e' e2.1 e2.2
        · have hp : ([45, 45] : List Int).isPrefixOf (c :: r) = false := by
            rw [Bool.eq_false_iff]
            intro hh
            apply e2
            cases r with
            | nil => simp [List.isPrefixOf] at hh
            | cons d r => simp [List.isPrefixOf] at hh; exact ⟨hh.1.symm, by simp [hh.2]⟩
          have hd : skip false (c :: r) = c :: r := by
            simp only [skip, e']
            rw [if_neg (by simp), if_neg (by simpa using e2)]
          rw [hp, hd]
          simp only [Bool.false_eq_true, if_false]
          exact Ev.now _
    have ten : isBlank c = true → Ev (fun k => foliotref04_blank.l0 k (strOfNums s) (pos s (c :: r))) (pos s (skip false (c :: r))) := by
      intro e
      have m := main true e.symm (fun x => by rw [e] at x; cases x)
      refine Ev.step' ?_
      generalize pos s (c :: r) = p at *
      simp only [foliotref04_blank.l0, hsz, if_pos h1, if_pos h0, hb]
      unfold isBlank at e
      by_cases a1 : c = 32
      · simp only [if_pos a1]; exact m
      by_cases a2 : c = 9
      · simp only [if_neg a1, if_pos a2]; exact m
      by_cases a3 : c = 10
      · simp only [if_neg a1, if_neg a2, if_pos a3]; exact m
      · have a4 : (c == 13) = true := by simpa [a1, a2, a3] using e
        simp only [if_neg a1, if_neg a2, if_neg a3, a4]; exact m
    have line : Ev (fun k => foliotref04_blank.l1 k (strOfNums s) (pos s (c :: r))) (pos s (skip true (c :: r))) := by
      by_cases e : c = 10
      · have t := ten (by subst e; decide)
        have hd : skip true (c :: r) = skip false (c :: r) := by subst e; simp [skip, isBlank]
        rw [hd]
        refine Ev.step' ?_
        generalize pos s (c :: r) = p at *
        simp only [foliotref04_blank.l1, hsz, if_pos h1, if_pos h0, hb, if_pos e]
        exact t
      · have hd : skip true (c :: r) = skip true r := by simp [skip, e]
        rw [hd]
        refine Ev.step' ?_
        generalize pos s (c :: r) = p at *
        simp only [foliotref04_blank.l1, hsz, if_pos h1, if_pos h0, hb, if_neg e, h3]
        exact i1
    refine ⟨?_, line⟩
    by_cases e : isBlank c = true
    · exact ten e
    · have e' : isBlank c = false := by simpa using e
      have m := main false e'.symm (fun _ _ _ => line)
      refine Ev.step' ?_
      generalize pos s (c :: r) = p at *
      simp only [foliotref04_blank.l0, hsz, if_pos h1, if_pos h0, hb]
      unfold isBlank at e'
      simp only [Bool.or_eq_false_iff, beq_eq_false_iff_ne] at e'
      simp only [if_neg e'.1.1.1, if_neg e'.1.1.2, if_neg e'.1.2, beq_eq_false_iff_ne.2 e'.2]
      exact m
  termination_by l => l.length

theorem in_ev {s : List ByteArray} (hn : s.length ≤ 140737488351232) (a : ByteArray) : ∀ l, l <:+ s →
    Ev (fun k => foliotref04_in.l0 k a s (((s.length - l.length : Nat)) : Int)) (l.any fun b => a.toList == b.toList)
  | [], h => by
    refine Ev.step' ?_
    simp only [foliotref04_in.l0, List.length_nil, Nat.sub_zero, Int.lt_irrefl, if_false]
    exact Ev.now _
  | c :: r, h => by
    obtain ⟨i, e1, h1, h2, h3, h4⟩ := wpos_cons (d := ByteArray.empty) h hn
    rw [e1]
    have hlt : (i : Int) < (s.length : Int) := by omega
    have hrd : rdOf ByteArray.empty s (i : Int) = c := by unfold rdOf; rw [Int.toNat_natCast]; exact h2
    refine Ev.step' ?_
    by_cases e : c.toList = a.toList
    · simp only [foliotref04_in.l0, if_pos hlt, if_pos (Int.natCast_nonneg i), hrd, if_pos e]
      rw [show ((c :: r).any fun b => a.toList == b.toList) = true from by simp [e]]
      exact Ev.now _
    · have ih := in_ev hn a r h4
      simp only [foliotref04_in.l0, if_pos hlt, if_pos (Int.natCast_nonneg i), hrd, if_neg e]
      rw [h3] at ih
      rw [show wrap64 ((i : Int) + 1) = ((i + 1 : Nat) : Int) from by unfold wrap64; omega]
      rw [show ((c :: r).any fun b => a.toList == b.toList) = (r.any fun b => a.toList == b.toList) from by
        have : (a.toList == c.toList) = false := beq_eq_false_iff_ne.2 (fun h => e h.symm)
        simp [this]]
      exact ih
theorem words_eq : foliotref04_Words.f = some (words.map strOfNums) := by rfl
theorem inwords_ev {t : List Int} (ht : Byt t) : Ev (fun k => foliotref04_in.f k (strOfNums t) (words.map strOfNums)) (words.contains t) := by
  have := in_ev (s := words.map strOfNums) (by decide) (strOfNums t) _ (List.suffix_refl _)
  rw [Nat.sub_self] at this
  have e : ((words.map strOfNums).any fun b => (strOfNums t).toList == b.toList) = words.contains t := by
    rw [List.any_map, Bool.eq_iff_iff, List.any_eq_true, List.contains_iff_mem]
    constructor
    · rintro ⟨w, hw, h⟩
      have := bytes_inj ht (words_byt w hw) (by simpa using h)
      rw [this]; exact hw
    · intro h
      exact ⟨t, h, by simp⟩
  rw [e] at this
  exact this

def signsL : List (List Int) := [[45, 62], [60, 61], [62, 61], [61, 61], [33, 61], [40], [41], [123], [125], [44], [59], [58], [61], [124], [43], [45], [42], [47], [60], [62]]
theorem signs_eq : foliotref04_signs.f = some (signsL.map strOfNums) := by rfl
theorem signs_byt : ∀ t ∈ signsL, Byt t ∧ t.length ≤ 100 := by unfold Byt; decide

/-- the reference's 'one', as far as it counts -/
def OneSays (p : Int) (f : Nat → Option (Int × ByteArray × Int × Bool)) : Option (Int × List Int × List Int) → Prop
  | none => Ev f (0, (⟨#[]⟩ : ByteArray), 0, false)
  | some (kd, t, _) => Ev f (kd, strOfNums t, p, true)

theorem signs_ev {s l : List Int} (hs : Byt s) (hn : s.length ≤ 140737488351232) (hl : l <:+ s) : ∀ q, q <:+ signsL →
    Ev (fun k => foliotref04_one.l3 k (strOfNums s) (pos s l) (signsL.map strOfNums) (((signsL.length - q.length : Nat)) : Int))
      (match q.find? fun t => t.isPrefixOf l with | some t => (5, strOfNums t, pos s l, true) | none => (0, (⟨#[]⟩ : ByteArray), 0, false))
  | [], h => by
    refine Ev.step' ?_
    simp only [foliotref04_one.l3, List.length_nil, Nat.sub_zero, List.length_map, Int.lt_irrefl, if_false, List.find?_nil]
    exact Ev.now _
  | t :: q, h => by
    obtain ⟨i, e1, h1, h2, h3, h4⟩ := wpos_cons (d := []) h (by decide)
    rw [e1]
    have hm : t ∈ signsL := h.subset (List.mem_cons_self ..)
    have hrd : rdOf ByteArray.empty (signsL.map strOfNums) (i : Int) = strOfNums t := by
      unfold rdOf
      rw [Int.toNat_natCast]
      rw [List.getD_eq_getElem?_getD, List.getElem?_map, List.getElem?_eq_getElem h1] 
      rw [List.getD_eq_getElem?_getD, List.getElem?_eq_getElem h1] at h2
      simpa using congrArg strOfNums h2
    have hb := begins_eq hs (signs_byt t hm).1 hl hn (signs_byt t hm).2
    have ih := signs_ev hs hn hl q h4
    rw [h3] at ih
    refine Ev.step' ?_
    generalize pos s l = p at *
    simp only [foliotref04_one.l3, List.length_map, if_pos (show (i : Int) < (signsL.length : Int) from by omega), if_pos (Int.natCast_nonneg i), hrd, hb, Option.bind_some, List.find?_cons]
    cases hp : t.isPrefixOf l with
    | true => simp only [if_true]; exact Ev.now _
    | false =>
      simp only [Bool.false_eq_true, if_false]
      have hl20 : signsL.length = 20 := rfl
      rw [show wrap64 ((i : Int) + 1) = ((i + 1 : Nat) : Int) from by unfold wrap64; omega]
      exact ih

theorem find_61 : ∀ c : Fin 256, (signsL.find? fun t => t.isPrefixOf [((c.val : Nat) : Int), 61]) = if isSign2 ((c.val : Nat) : Int) 61 then some [((c.val : Nat) : Int), 61] else if isSign1 ((c.val : Nat) : Int) then some [((c.val : Nat) : Int)] else none := by decide +kernel
theorem find_62 : ∀ c : Fin 256, (signsL.find? fun t => t.isPrefixOf [((c.val : Nat) : Int), 62]) = if isSign2 ((c.val : Nat) : Int) 62 then some [((c.val : Nat) : Int), 62] else if isSign1 ((c.val : Nat) : Int) then some [((c.val : Nat) : Int)] else none := by decide +kernel
theorem find_one : ∀ c : Fin 256, (signsL.find? fun t => t.isPrefixOf [((c.val : Nat) : Int)]) = if isSign1 ((c.val : Nat) : Int) then some [((c.val : Nat) : Int)] else none := by decide +kernel
theorem find_cut (c d : Int) (r : List Int) : (signsL.find? fun t => t.isPrefixOf (c :: d :: r)) = (signsL.find? fun t => t.isPrefixOf [c, d]) := by
  simp [signsL, List.isPrefixOf, List.find?]
theorem find_big (c d : Int) (h1 : d ≠ 61) (h2 : d ≠ 62) : (signsL.find? fun t => t.isPrefixOf [c, d]) = (signsL.find? fun t => t.isPrefixOf [c]) := by
  have e1 : (61 == d) = false := beq_eq_false_iff_ne.2 (fun h => h1 h.symm)
  have e2 : (62 == d) = false := beq_eq_false_iff_ne.2 (fun h => h2 h.symm)
  simp only [signsL, List.find?, List.isPrefixOf, e1, e2, Bool.and_false, Bool.and_true]
theorem find_sign {c : Int} (h : 0 ≤ c ∧ c ≤ 255) (r : List Int) : (signsL.find? fun t => t.isPrefixOf (c :: r)) = (match r with
    | d :: _ => if isSign2 c d then some [c, d] else if isSign1 c then some [c] else none
    | [] => if isSign1 c then some [c] else none) := by
  have ec : ((c.toNat : Nat) : Int) = c := by omega
  have h1 := find_one ⟨c.toNat, by omega⟩
  have h61 := find_61 ⟨c.toNat, by omega⟩
  have h62 := find_62 ⟨c.toNat, by omega⟩
  simp only [ec] at h1 h61 h62
  cases r with
  | nil => exact h1
  | cons d r =>
    rw [find_cut]
    by_cases e1 : d = 61
    · subst e1; exact h61
    by_cases e2 : d = 62
    · subst e2; exact h62
    rw [find_big c d e1 e2, h1]
    have : isSign2 c d = false := by simp [isSign2, e1, e2]
    simp only [this, Bool.false_eq_true, if_false]

theorem extract_eq (s : List Int) (a b : Nat) : (strOfNums s).extract a b = strOfNums ((s.take b).drop a) := by
  have h := extract_str s a b
  rw [← Lib.strOfNums_toList, Lib.toList_data, Lib.toList_data] at h
  exact ByteArray.ext (Array.ext' h)

theorem ref_in_loop {s : List Int} (hs : Byt s) (hn : s.length ≤ 140737488351232) (i c : Int) {r : Int × ByteArray × Int × Bool} : ∀ l, l <:+ s →
    Ev (fun k => foliotref04_one.j2 k (strOfNums s) i c (pos s (l.dropWhile isIn))) r → Ev (fun k => foliotref04_one.l0 k (strOfNums s) i c (pos s l)) r
  | [], h, hr => by
    refine Ev.step' ?_
    simp only [foliotref04_one.l0, pos_nil, str_size, Int.lt_irrefl, if_false]
    simpa only [List.dropWhile_nil, pos_nil] using hr
  | d :: q, h, hr => by
    obtain ⟨h0, h1, h2, h3, h4⟩ := at_cons h hn
    have hb := bt_str hs (pos s (d :: q))
    rw [h2] at hb
    have hsz := str_size s
    have ih := ref_in_loop (r := r) hs hn i c q h4
    by_cases e : isIn d = true
    · rw [List.dropWhile_cons, if_pos e] at hr
      have ih := ih hr
      refine Ev.step' ?_
      generalize pos s (d :: q) = p at *
      simp only [foliotref04_one.l0, hsz, if_pos h1, if_pos h0, hb, small_eq, large_eq, digit_eq, Option.bind_some, h3]
      unfold isIn at e
      by_cases a1 : isSmall d = true
      · simp only [if_pos a1]; exact ih
      by_cases a2 : isLarge d = true
      · simp only [if_neg a1, if_pos a2]; exact ih
      · have a3 : isDigit d = true := by simpa [a1, a2] using e
        simp only [if_neg a1, if_neg a2, if_pos a3]; exact ih
    · rw [List.dropWhile_cons, if_neg e] at hr
      refine Ev.step' ?_
      generalize pos s (d :: q) = p at *
      simp only [foliotref04_one.l0, hsz, if_pos h1, if_pos h0, hb, small_eq, large_eq, digit_eq, Option.bind_some]
      unfold isIn at e
      simp only [Bool.or_eq_true, not_or] at e
      simp only [if_neg e.1.1, if_neg e.1.2, if_neg e.2]
      exact hr
theorem ref_num2_loop {s : List Int} (hs : Byt s) (hn : s.length ≤ 140737488351232) (i : Int) (hi : 0 ≤ i) : ∀ l, l <:+ s → i ≤ pos s l →
    Ev (fun k => foliotref04_one.l2 k (strOfNums s) i (pos s l)) (3, (strOfNums s).extract i.toNat (pos s (l.dropWhile isDigit)).toNat, i, true)
  | [], h, hle => by
    refine Ev.step' ?_
    simp only [foliotref04_one.l2, List.dropWhile_nil, pos_nil, str_size, Int.lt_irrefl, if_false]
    rw [pos_nil] at hle
    simp only [if_pos hi, if_pos hle, if_pos (Int.le_refl _)]
    exact Ev.now _
  | d :: q, h, hle => by
    obtain ⟨h0, h1, h2, h3, h4⟩ := at_cons h hn
    have hb := bt_str hs (pos s (d :: q))
    rw [h2] at hb
    have hsz := str_size s
    have hq : i ≤ pos s q := by
      have : pos s (d :: q) ≤ pos s q := pos_mono (t := [d]) h
      omega
    have ih := ref_num2_loop hs hn i hi q h4 hq
    have hle2 : pos s (d :: q) ≤ (s.length : Int) := pos_le
    refine Ev.step' ?_
    by_cases e : isDigit d = true
    · rw [List.dropWhile_cons, if_pos e]
      generalize pos s (d :: q) = p at *
      simp only [foliotref04_one.l2, hsz, if_pos h1, if_pos h0, hb, digit_eq, Option.bind_some, if_pos e, h3]
      exact ih
    · rw [List.dropWhile_cons, if_neg e]
      generalize pos s (d :: q) = p at *
      simp only [foliotref04_one.l2, hsz, if_pos h1, if_pos h0, hb, digit_eq, Option.bind_some, if_neg e, if_pos hi, if_pos hle, if_pos hle2]
      exact Ev.now _
theorem ref_num1_loop {s : List Int} (hs : Byt s) (hn : s.length ≤ 140737488351232) (i : Int) {r : Int × ByteArray × Int × Bool} : ∀ l, l <:+ s →
    Ev (fun k => foliotref04_one.j5 k (strOfNums s) i (pos s (l.dropWhile isDigit))) r → Ev (fun k => foliotref04_one.l1 k (strOfNums s) i (pos s l)) r
  | [], h, hr => by
    refine Ev.step' ?_
    simp only [foliotref04_one.l1, pos_nil, str_size, Int.lt_irrefl, if_false]
    simpa only [List.dropWhile_nil, pos_nil] using hr
  | d :: q, h, hr => by
    obtain ⟨h0, h1, h2, h3, h4⟩ := at_cons h hn
    have hb := bt_str hs (pos s (d :: q))
    rw [h2] at hb
    have hsz := str_size s
    have ih := ref_num1_loop (r := r) hs hn i q h4
    refine Ev.step' ?_
    by_cases e : isDigit d = true
    · rw [List.dropWhile_cons, if_pos e] at hr
      have ih := ih hr
      generalize pos s (d :: q) = p at *
      simp only [foliotref04_one.l1, hsz, if_pos h1, if_pos h0, hb, digit_eq, Option.bind_some, if_pos e, h3]
      exact ih
    · rw [List.dropWhile_cons, if_neg e] at hr
      generalize pos s (d :: q) = p at *
      simp only [foliotref04_one.l1, hsz, if_pos h1, if_pos h0, hb, digit_eq, Option.bind_some, if_neg e]
      exact hr

theorem cut_ext {s t r : List Int} (h : t ++ r <:+ s) : (strOfNums s).extract (pos s (t ++ r)).toNat (pos s r).toNat = strOfNums t := by
  rw [extract_eq, cut_text h]

theorem ref_j3 {s t r : List Int} (hs : Byt s) (h : t ++ r <:+ s) (kd : Int) :
    Ev (fun k => foliotref04_one.j3 k (strOfNums s) (pos s (t ++ r)) (pos s r) kd) (if words.contains t = true then 4 else kd, strOfNums t, pos s (t ++ r), true) := by
  have ht : Byt t := fun x hx => hs x (h.subset (List.mem_append_left _ hx))
  have w := inwords_ev ht
  have c := cut_ext h
  have p0 : 0 ≤ pos s (t ++ r) := pos_nn
  have p1 := pos_mono h
  have p2 : pos s r ≤ ((strOfNums s).size : Int) := by rw [str_size]; exact pos_le
  refine Ev.step' ?_
  generalize pos s (t ++ r) = p at *
  generalize pos s r = q at *
  simp only [foliotref04_one.j3, if_pos p0, if_pos p1, if_pos p2, words_eq, Option.bind_some, c]
  refine Ev.bind w ?_
  cases words.contains t with
  | true => simp only [if_true]; exact Ev.now _
  | false => simp only [Bool.false_eq_true, if_false]; exact Ev.now _

theorem ref_num {s r : List Int} {c : Int} (hs : Byt s) (hn : s.length ≤ 140737488351232) (h : c :: r <:+ s) (hi : isDigit c = true) :
    Ev (fun k => foliotref04_one.l1 k (strOfNums s) (pos s (c :: r)) (pos s (c :: r))) (3, strOfNums (c :: (num r).1), pos s (c :: r), true) := by
  obtain ⟨h0, h1, h2, h3, h4⟩ := at_cons h hn
  refine ref_num1_loop hs hn _ _ h ?_
  rw [List.dropWhile_cons, if_pos hi]
  have e : c :: r = (c :: (num r).1) ++ (num r).2 := by rw [List.cons_append, num_text]
  have hcut := cut_ext (s := s) (t := c :: (num r).1) (r := (num r).2) (e ▸ h)
  rw [← e] at hcut
  have hd : r.dropWhile isDigit <:+ s := (List.dropWhile_suffix _).trans h4
  have hsz := str_size s
  have hpd : pos s (c :: r) ≤ pos s (r.dropWhile isDigit) := by
    have := pos_mono (s := s) (t := c :: r.takeWhile isDigit) (r := r.dropWhile isDigit) (by simpa using h)
    simpa using this
  have j6f : (num r).2 = r.dropWhile isDigit → Ev (fun k => foliotref04_one.j6 k (strOfNums s) (pos s (c :: r)) (pos s (r.dropWhile isDigit)) false) (3, strOfNums (c :: (num r).1), pos s (c :: r), true) := by
    intro hq
    rw [hq] at hcut
    have p2 : pos s (r.dropWhile isDigit) ≤ (s.length : Int) := pos_le
    refine Ev.step' ?_
    generalize pos s (c :: r) = p at *
    generalize pos s (r.dropWhile isDigit) = q at *
    simp only [foliotref04_one.j6, Bool.false_eq_true, if_false, hsz, if_pos h0, if_pos hpd, if_pos p2, hcut]
    exact Ev.now _
  refine Ev.step' ?_
  cases hq : r.dropWhile isDigit with
  | nil =>
    have j := j6f (by rw [num_a hq, hq])
    rw [hq] at j
    have : ¬ (wrap64 (pos s ([] : List Int) + 1) < (s.length : Int)) := by rw [pos_nil]; unfold wrap64; omega
    generalize pos s ([] : List Int) = q at *
    simp only [foliotref04_one.j5, hsz, if_neg this]
    exact j
  | cons a q1 =>
    rw [hq] at hd hpd
    obtain ⟨g0, g1, g2, g3, g4⟩ := at_cons hd hn
    have hba := bt_str hs (pos s (a :: q1))
    rw [g2] at hba
    cases q1 with
    | nil =>
      have j := j6f (by rw [num_b hq, hq])
      rw [hq] at j
      have : ¬ (wrap64 (pos s [a] + 1) < (s.length : Int)) := by rw [g3, pos_nil]; omega
      generalize pos s [a] = q at *
      simp only [foliotref04_one.j5, hsz, if_neg this]
      exact j
    | cons d r2 =>
      obtain ⟨f0, f1, f2, f3, f4⟩ := at_cons g4 hn
      have hbd := bt_str hs (pos s (d :: r2))
      rw [f2] at hbd
      by_cases ea : a = 46
      · by_cases ed : isDigit d = true
        · have cond : (a == 46 && isDigit d) = true := by simp [ea, ed]
          rw [num_c hq cond] at hcut
          have hle : pos s (c :: r) ≤ pos s (d :: r2) := by
            have := pos_mono (s := s) (t := [a]) (r := d :: r2) hd
            exact Int.le_trans hpd this
          have l2 := ref_num2_loop hs hn (pos s (c :: r)) h0 (d :: r2) g4 hle
          rw [List.dropWhile_cons, if_pos ed, hcut] at l2
          have j : Ev (fun k => foliotref04_one.j6 k (strOfNums s) (pos s (c :: r)) (pos s (a :: d :: r2)) true) (3, strOfNums (c :: (num r).1), pos s (c :: r), true) := by
            refine Ev.step' ?_
            generalize pos s (c :: r) = p at *
            generalize pos s (a :: d :: r2) = q at *
            simp only [foliotref04_one.j6, if_true, g3]
            exact l2
          generalize pos s (c :: r) = p at *
          generalize pos s (a :: d :: r2) = q at *
          simp only [foliotref04_one.j5, hsz, g3, if_pos f1, if_pos g0, if_pos g1, hba, if_pos ea, if_pos f0, hbd, digit_eq, Option.bind_some, ed]
          exact j
        · have ed' : isDigit d = false := by simpa using ed
          have cond : (a == 46 && isDigit d) = false := by simp [ed']
          have j := j6f (by rw [num_d hq cond, hq])
          rw [hq] at j
          generalize pos s (c :: r) = p at *
          generalize pos s (a :: d :: r2) = q at *
          simp only [foliotref04_one.j5, hsz, g3, if_pos f1, if_pos g0, if_pos g1, hba, if_pos ea, if_pos f0, hbd, digit_eq, Option.bind_some, ed']
          exact j
      · have cond : (a == 46 && isDigit d) = false := by simp [ea]
        have j := j6f (by rw [num_d hq cond, hq])
        rw [hq] at j
        generalize pos s (c :: r) = p at *
        generalize pos s (a :: d :: r2) = q at *
        simp only [foliotref04_one.j5, hsz, g3, if_pos f1, if_pos g0, if_pos g1, hba, if_neg ea]
        exact j

theorem one_ev {s r : List Int} {c : Int} (hs : Byt s) (hn : s.length ≤ 140737488351232) (h : c :: r <:+ s) : OneSays (pos s (c :: r)) (fun k => foliotref04_one.f k (strOfNums s) (pos s (c :: r))) (one (c :: r)) := by
  obtain ⟨h0, h1, h2, h3, h4⟩ := at_cons h hn
  have hc := (hs.suffix h).cons
  have hb := bt_str hs (pos s (c :: r))
  rw [h2] at hb
  have hsz := str_size s
  unfold one
  by_cases hin : (isSmall c || isLarge c) = true
  · simp only [hin, if_true, OneSays]
    have hi : isIn c = true := by unfold isIn; rw [hin]; rfl
    have e : c :: r = (c :: r.takeWhile isIn) ++ r.dropWhile isIn := by simp
    have j3 := fun kd => ref_j3 hs (t := c :: r.takeWhile isIn) (r := r.dropWhile isIn) (e ▸ h) kd
    rw [← e] at j3
    have j2 : Ev (fun k => foliotref04_one.j2 k (strOfNums s) (pos s (c :: r)) c (pos s ((c :: r).dropWhile isIn))) (if words.contains (c :: r.takeWhile isIn) = true then 4 else if isSmall c = true then 1 else 2, strOfNums (c :: r.takeWhile isIn), pos s (c :: r), true) := by
      rw [List.dropWhile_cons, if_pos hi]
      refine Ev.step' ?_
      by_cases es : isSmall c = true
      · have j := j3 1
        generalize pos s (c :: r) = p at *
        generalize pos s (r.dropWhile isIn) = q at *
        simp only [foliotref04_one.j2, small_eq, Option.bind_some, if_pos es]
        exact j
      · have j := j3 2
        generalize pos s (c :: r) = p at *
        generalize pos s (r.dropWhile isIn) = q at *
        simp only [foliotref04_one.j2, small_eq, Option.bind_some, if_neg es]
        exact j
    have l0 := ref_in_loop hs hn (pos s (c :: r)) c (c :: r) h j2
    have j0 : Ev (fun k => foliotref04_one.j0 k (strOfNums s) (pos s (c :: r)) c (pos s (c :: r)) true) (if words.contains (c :: r.takeWhile isIn) = true then 4 else if isSmall c = true then 1 else 2, strOfNums (c :: r.takeWhile isIn), pos s (c :: r), true) := by
      refine Ev.step' ?_
      generalize pos s (c :: r) = p at *
      simp only [foliotref04_one.j0, if_true]
      exact l0
    unfold foliotref04_one.f
    generalize pos s (c :: r) = p at *
    simp only [hsz, if_pos h0, if_pos h1, hb, small_eq, large_eq, Option.bind_some]
    by_cases es : isSmall c = true
    · simp only [if_pos es] at j0 ⊢; exact j0
    · have el : isLarge c = true := by simpa [es] using hin
      simp only [if_neg es, el] at j0 ⊢; exact j0
  · have hin' : (isSmall c || isLarge c) = false := by simpa using hin
    obtain ⟨es, el⟩ := Bool.or_eq_false_iff.1 hin'
    simp only [hin', Bool.false_eq_true, if_false]
    have top : ∀ x, Ev (fun k => foliotref04_one.j0 k (strOfNums s) (pos s (c :: r)) c (pos s (c :: r)) false) x → Ev (fun k => foliotref04_one.f k (strOfNums s) (pos s (c :: r))) x := by
      intro x hx
      unfold foliotref04_one.f
      generalize pos s (c :: r) = p at *
      simp only [hsz, if_pos h0, if_pos h1, hb, small_eq, large_eq, Option.bind_some, es, el, Bool.false_eq_true, if_false]
      exact hx
    by_cases ed : isDigit c = true
    · simp only [if_pos ed, OneSays]
      refine top _ (Ev.step' ?_)
      have n := ref_num hs hn h ed
      generalize pos s (c :: r) = p at *
      simp only [foliotref04_one.j0, Bool.false_eq_true, if_false, digit_eq, Option.bind_some, if_pos ed]
      exact n
    · simp only [if_neg ed]
      have sg := signs_ev hs hn h signsL (List.suffix_refl _)
      rw [Nat.sub_self, find_sign hc r] at sg
      have top2 : ∀ x, Ev (fun k => foliotref04_one.l3 k (strOfNums s) (pos s (c :: r)) (signsL.map strOfNums) 0) x → Ev (fun k => foliotref04_one.f k (strOfNums s) (pos s (c :: r))) x := by
        intro x hx
        refine top _ (Ev.step' ?_)
        generalize pos s (c :: r) = p at *
        simp only [foliotref04_one.j0, Bool.false_eq_true, if_false, digit_eq, Option.bind_some, if_neg ed, signs_eq]
        exact hx
      cases r with
      | nil =>
        dsimp only at sg ⊢
        by_cases s1 : isSign1 c = true
        · simp only [if_pos s1, OneSays] at sg ⊢; exact top2 _ sg
        · simp only [if_neg s1, OneSays] at sg ⊢; exact top2 _ sg
      | cons d r2 =>
        dsimp only at sg ⊢
        by_cases s2 : isSign2 c d = true
        · simp only [if_pos s2, OneSays] at sg ⊢; exact top2 _ sg
        by_cases s1 : isSign1 c = true
        · simp only [if_neg s2, if_pos s1, OneSays] at sg ⊢; exact top2 _ sg
        · simp only [if_neg s2, if_neg s1, OneSays] at sg ⊢; exact top2 _ sg

theorem ref_loop {s : List Int} (hs : Byt s) (hn : s.length ≤ 65536) : ∀ f l acc, l <:+ s → l.length < f → acc.length + l.length ≤ s.length →
    Ev (fun k => foliotref04_Tokens.l0 k (strOfNums s) acc (pos s (skip false l))) (match lexF s.length f l with | .inl e => ([], 40, (e : Int)) | .inr ts => (acc ++ ts.map tok, 0, 0))
  | 0, l, acc, h, hf, ha => by omega
  | f + 1, l, acc, h, hf, ha => by
    have hk : skip false l <:+ s := (skip_suffix false l).trans h
    have hlen := (skip_suffix false l).length_le
    have hsz := str_size s
    unfold lexF
    cases hq : skip false l with
    | nil =>
      refine Ev.step' ?_
      rw [hq] at *
      simp only [foliotref04_Tokens.l0, pos_nil, hsz, Int.lt_irrefl, if_false, if_pos (show acc.length < 4398046511104 from by omega), List.map_cons, List.map_nil, tok]
      exact Ev.now _
    | cons c r =>
      rw [hq] at hk hlen
      obtain ⟨h0, h1, h2, h3, h4⟩ := at_cons hk (by omega)
      have ne := one_ev hs (by omega) hk
      have hpos : pos s (c :: r) = ((s.length - (r.length + 1) : Nat) : Int) := rfl
      cases ho : one (c :: r) with
      | none =>
        rw [ho] at ne
        simp only [OneSays] at ne
        refine Ev.step' ?_
        simp only [ho]
        rw [← hpos]
        generalize pos s (c :: r) = p at *
        simp only [foliotref04_Tokens.l0, hsz, if_pos h1]
        refine Ev.bind ne ?_
        simp only [Bool.false_eq_true, if_false]
        exact Ev.now _
      | some y =>
        obtain ⟨kd, t, rest⟩ := y
        rw [ho] at ne
        simp only [OneSays] at ne
        obtain ⟨ht, htn, _⟩ := one_text ho
        have hrest : rest <:+ s := List.IsSuffix.trans ⟨t, ht⟩ hk
        have hl2 : rest.length + 1 ≤ (c :: r).length := by
          rw [← ht, List.length_append]
          cases t with
          | nil => exact absurd rfl htn
          | cons => simp; omega
        have ih := ref_loop hs hn f rest (acc ++ [⟨kd, strOfNums t, pos s (c :: r)⟩]) hrest (by omega) (by simp only [List.length_append, List.length_singleton]; omega)
        have bl := (blank_ev hs (by omega) rest hrest).1
        have hw : wrap64 (pos s (c :: r) + ((strOfNums t).size : Int)) = pos s rest := by
          rw [str_size]
          obtain ⟨p, rfl⟩ := hk
          simp only [List.length_append] at hn
          rw [← ht] at hn ⊢
          simp only [List.length_append] at hn
          have e1 : pos (p ++ (t ++ rest)) (t ++ rest) = (p.length : Int) := by unfold pos; simp
          have e2 : pos (p ++ (t ++ rest)) rest = (p.length : Int) + t.length := by unfold pos; simp; omega
          rw [e1, e2]; unfold wrap64; omega
        refine Ev.step' ?_
        have go : Ev (fun k => foliotref04_Tokens.l0 (k + 1) (strOfNums s) acc (pos s (c :: r))) (match lexF s.length f rest with | .inl e => ([], 40, (e : Int)) | .inr ts => (acc ++ [⟨kd, strOfNums t, pos s (c :: r)⟩] ++ ts.map tok, 0, 0)) := by
          generalize pos s (c :: r) = p at *
          generalize pos s (skip false rest) = p2 at *
          generalize pos s rest = p3 at *
          simp only [foliotref04_Tokens.l0, hsz, if_pos h1]
          refine Ev.bind ne ?_
          simp only [if_true, if_pos (show acc.length < 4398046511104 from by omega), hw]
          unfold foliotref04_blank.f
          exact Ev.bind bl ih
        simp only [ho]
        cases hx : lexF s.length f rest with
        | inl e =>
          rw [hx] at go
          exact go
        | inr ts =>
          rw [hx] at go
          simp only [List.map_cons, tok] at go ⊢
          rw [List.append_assoc, List.singleton_append, hpos] at go
          rw [hpos]
          exact go

theorem ref_ev {s : List Int} (hs : Byt s) : Ev (fun k => foliotref04_Tokens.f k s) (tokensSay s) := by
  unfold foliotref04_Tokens.f tokensSay
  by_cases hl : s.length > 65536
  · simp only [if_pos hl, if_pos (show (s.length : Int) > 65536 from by omega)]
    exact Ev.now _
  · simp only [if_neg hl, if_neg (show ¬ (s.length : Int) > 65536 from by omega)]
    have h := ref_loop hs (by omega) (s.length + 1) s [] (List.suffix_refl _) (by omega) (by simp)
    have bl := (blank_ev hs (by omega) s (List.suffix_refl _)).1
    rw [show pos s s = 0 from by simp [pos]] at bl
    unfold foliotref04_blank.f
    refine Ev.bind bl ?_
    unfold lex
    revert h
    cases lexF s.length (s.length + 1) s with
    | inl e => exact fun h => h
    | inr ts => intro h; simpa only [List.nil_append] using h

theorem same_ev {s : List S31} (hn : s.length ≤ 140737488351232) : ∀ l, l <:+ s →
    Ev (fun k => foliotref04_Same.l0 k s s (((s.length - l.length : Nat)) : Int)) true
  | [], h => by
    refine Ev.step' ?_
    simp only [foliotref04_Same.l0, List.length_nil, Nat.sub_zero, Int.lt_irrefl, if_false]
    exact Ev.now _
  | c :: r, h => by
    obtain ⟨i, e1, h1, h2, h3, h4⟩ := wpos_cons (d := z31) h hn
    rw [e1]
    have ih := same_ev hn r h4
    rw [h3] at ih
    refine Ev.step' ?_
    simp only [foliotref04_Same.l0, if_pos (show (i : Int) < (s.length : Int) from by omega), if_pos (Int.natCast_nonneg i), beq_self_eq_true, Bool.not_true, Bool.or_self, Bool.false_eq_true, if_false]
    rw [show wrap64 ((i : Int) + 1) = ((i + 1 : Nat) : Int) from by unfold wrap64; omega]
    exact ih
theorem same_self {s : List S31} (hn : s.length ≤ 140737488351232) : Ev (fun k => foliotref04_Same.f k s s) true := by
  unfold foliotref04_Same.f
  simp only [if_true]
  have := same_ev hn s (List.suffix_refl _)
  rw [Nat.sub_self] at this
  exact this

theorem lexF_len (n : Nat) : ∀ f l ts, l.length < f → lexF n f l = .inr ts → ts.length ≤ l.length + 1
  | 0, l, ts, hf, h => by omega
  | f + 1, l, ts, hf, h => by
    have hlen := (skip_suffix false l).length_le
    unfold lexF at h
    cases hq : skip false l with
    | nil => rw [hq] at h; simp only [Sum.inr.injEq] at h; subst h; simp
    | cons c r =>
      rw [hq] at h hlen
      dsimp only at h
      cases ho : one (c :: r) with
      | none => rw [ho] at h; cases h
      | some y =>
        obtain ⟨kd, t, rest⟩ := y
        rw [ho] at h
        dsimp only at h
        obtain ⟨ht, htn, _⟩ := one_text ho
        have hl2 : rest.length + 1 ≤ (c :: r).length := by
          rw [← ht, List.length_append]
          cases t with
          | nil => exact absurd rfl htn
          | cons => simp; omega
        cases hx : lexF n f rest with
        | inl e => rw [hx] at h; cases h
        | inr us =>
          rw [hx] at h
          simp only [Sum.inr.injEq] at h
          subst h
          have := lexF_len n f rest us (by omega) hx
          simp only [List.length_cons]; omega
theorem tokensSay_len (s : List Int) : (tokensSay s).1.length ≤ s.length + 1 := by
  unfold tokensSay
  split
  · simp
  · split
    · simp
    · rename_i ts hx
      simp only [List.length_map]
      exact lexF_len _ _ _ _ (by omega) hx
end Go.Proofs.Ytnnjanhibomijaa.LexImpl
