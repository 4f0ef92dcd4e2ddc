/- More words on the specification: fuel, shift, sources joined, what stands between tokens. -/
import Derived.Test.YtnnjanhibomijaaLexNext2
namespace Go.Proofs.Ytnnjanhibomijaa.LexSpec
open Go.Proofs.Ytnnjanhibomijaa.LexImpl

/-- one step of lexF, told by what 'skip' leaves -/
theorem lexF_nil {n f : Nat} {l : List Int} (h : skip false l = []) : lexF n (f + 1) l = .inr [(0, [], n)] := by rw [lexF, h]
theorem lexF_none {n f : Nat} {l r : List Int} {c : Int} (h : skip false l = c :: r) (ho : one (c :: r) = none) : lexF n (f + 1) l = .inl (n - (r.length + 1)) := by
  rw [lexF, h]; dsimp only; rw [ho]
theorem lexF_inl {n f : Nat} {l r t rest : List Int} {c kd : Int} {e : Nat} (h : skip false l = c :: r) (ho : one (c :: r) = some (kd, t, rest)) (hx : lexF n f rest = .inl e) : lexF n (f + 1) l = .inl e := by
  rw [lexF, h]; dsimp only; rw [ho]; dsimp only; rw [hx]
theorem lexF_inr {n f : Nat} {l r t rest : List Int} {c kd : Int} {ts : List (Int × List Int × Nat)} (h : skip false l = c :: r) (ho : one (c :: r) = some (kd, t, rest)) (hx : lexF n f rest = .inr ts) :
    lexF n (f + 1) l = .inr ((kd, t, n - (r.length + 1)) :: ts) := by
  rw [lexF, h]; dsimp only; rw [ho]; dsimp only; rw [hx]
theorem one_rest {l t rest : List Int} {kd : Int} (h : one l = some (kd, t, rest)) : rest.length + 1 ≤ l.length := by
  obtain ⟨ht, htn, _⟩ := one_text h
  rw [← ht, List.length_append]
  cases t with
  | nil => exact absurd rfl htn
  | cons => simp; omega

/-- induction along the tokens of a text -/
theorem lex_ind {p : List Int → Prop} (hnil : ∀ l, skip false l = [] → p l) (hnone : ∀ l c r, skip false l = c :: r → one (c :: r) = none → p l)
    (hstep : ∀ l c r kd t rest, skip false l = c :: r → one (c :: r) = some (kd, t, rest) → rest.length < l.length → r.length < l.length → p rest → p l) : ∀ f l, l.length < f → p l
  | 0, _, h => by omega
  | f + 1, l, hf => by
    have hlen := (skip_suffix false l).length_le
    cases hq : skip false l with
    | nil => exact hnil l hq
    | cons c r =>
      rw [hq] at hlen
      cases ho : one (c :: r) with
      | none => exact hnone l c r hq ho
      | some y =>
        obtain ⟨kd, t, rest⟩ := y
        have hr := one_rest ho
        simp only [List.length_cons] at hlen hr
        exact hstep l c r kd t rest hq ho (by omega) (by omega) (lex_ind hnil hnone hstep f rest (by omega))

theorem lexF_fuel (n : Nat) (l : List Int) : ∀ f g, l.length < f → l.length < g → lexF n f l = lexF n g l := by
  refine lex_ind (p := fun l => ∀ f g, l.length < f → l.length < g → lexF n f l = lexF n g l) ?_ ?_ ?_ (l.length + 1) l (by omega)
  · intro l h f g hf hg
    obtain ⟨f, rfl⟩ : ∃ f', f = f' + 1 := ⟨f - 1, by omega⟩
    obtain ⟨g, rfl⟩ : ∃ g', g = g' + 1 := ⟨g - 1, by omega⟩
    rw [lexF_nil h, lexF_nil h]
  · intro l c r h ho f g hf hg
    obtain ⟨f, rfl⟩ : ∃ f', f = f' + 1 := ⟨f - 1, by omega⟩
    obtain ⟨g, rfl⟩ : ∃ g', g = g' + 1 := ⟨g - 1, by omega⟩
    rw [lexF_none h ho, lexF_none h ho]
  · intro l c r kd t rest h ho hlt _ ih f g hf hg
    obtain ⟨f, rfl⟩ : ∃ f', f = f' + 1 := ⟨f - 1, by omega⟩
    obtain ⟨g, rfl⟩ : ∃ g', g = g' + 1 := ⟨g - 1, by omega⟩
    have e := ih f g (by omega) (by omega)
    cases hx : lexF n g rest with
    | inl e' => rw [lexF_inl h ho (e.trans hx), lexF_inl h ho hx]
    | inr ts => rw [lexF_inr h ho (e.trans hx), lexF_inr h ho hx]

/-- what lexF says, with fuel enough -/
def lexN (n : Nat) (l : List Int) : Nat ⊕ List (Int × List Int × Nat) := lexF n (l.length + 1) l
theorem lexN_nil {n : Nat} {l : List Int} (h : skip false l = []) : lexN n l = .inr [(0, [], n)] := lexF_nil h
theorem lexN_none {n : Nat} {l r : List Int} {c : Int} (h : skip false l = c :: r) (ho : one (c :: r) = none) : lexN n l = .inl (n - (r.length + 1)) := lexF_none h ho
theorem lexN_step {n : Nat} {l r t rest : List Int} {c kd : Int} (h : skip false l = c :: r) (ho : one (c :: r) = some (kd, t, rest)) :
    lexN n l = match lexN n rest with | .inl e => .inl e | .inr ts => .inr ((kd, t, n - (r.length + 1)) :: ts) := by
  have hlen := (skip_suffix false l).length_le
  rw [h] at hlen
  have hr := one_rest ho
  have e := lexF_fuel n rest l.length (rest.length + 1) (by simp only [List.length_cons] at hlen hr; omega) (by omega)
  unfold lexN
  cases hx : lexF n (rest.length + 1) rest with
  | inl e' => rw [lexF_inl h ho (e.trans hx)]
  | inr ts => rw [lexF_inr h ho (e.trans hx)]
theorem lexN_skip {n : Nat} {l l' : List Int} (h : skip false l = skip false l') : lexN n l = lexN n l' := by
  cases hq : skip false l' with
  | nil => rw [lexN_nil (h.trans hq), lexN_nil hq]
  | cons c r =>
    cases ho : one (c :: r) with
    | none => rw [lexN_none (h.trans hq) ho, lexN_none hq ho]
    | some y =>
      obtain ⟨kd, t, rest⟩ := y
      rw [lexN_step (h.trans hq) ho, lexN_step hq ho]
theorem lexN_end (n : Nat) (l : List Int) : ∀ ts, lexN n l = .inr ts → ∃ us, ts = us ++ [(0, [], n)] := by
  refine lex_ind (p := fun l => ∀ ts, lexN n l = .inr ts → ∃ us, ts = us ++ [(0, [], n)]) ?_ ?_ ?_ (l.length + 1) l (by omega)
  · intro l h ts e; rw [lexN_nil h] at e; cases e; exact ⟨[], rfl⟩
  · intro l c r h ho ts e; rw [lexN_none h ho] at e; cases e
  · intro l c r kd t rest h ho _ _ ih ts e
    rw [lexN_step h ho] at e
    cases hx : lexN n rest with
    | inl e' => rw [hx] at e; cases e
    | inr us =>
      rw [hx] at e
      obtain ⟨vs, rfl⟩ := ih us hx
      cases e
      exact ⟨_ :: vs, rfl⟩

/-- the same bytes further behind -/
def moved (s : Nat) (x : Int × List Int × Nat) : Int × List Int × Nat := (x.1, x.2.1, x.2.2 + s)
theorem lexN_moved (n s : Nat) (l : List Int) : l.length ≤ n → lexN (n + s) l = match lexN n l with | .inl e => .inl (e + s) | .inr ts => .inr (ts.map (moved s)) := by
  refine lex_ind (p := fun l => l.length ≤ n → lexN (n + s) l = match lexN n l with | .inl e => .inl (e + s) | .inr ts => .inr (ts.map (moved s))) ?_ ?_ ?_ (l.length + 1) l (by omega)
  · intro l h _; rw [lexN_nil h, lexN_nil h]; rfl
  · intro l c r h ho hn
    have hlen := (skip_suffix false l).length_le
    rw [h, List.length_cons] at hlen
    rw [lexN_none h ho, lexN_none h ho]
    show Sum.inl _ = Sum.inl _
    rw [show n + s - (r.length + 1) = n - (r.length + 1) + s from by omega]
  · intro l c r kd t rest h ho hlt hrl ih hn
    rw [lexN_step h ho, lexN_step h ho, ih (by omega)]
    cases hx : lexN n rest with
    | inl e => rfl
    | inr ts =>
      show Sum.inr _ = Sum.inr _
      rw [List.map_cons, show n + s - (r.length + 1) = n - (r.length + 1) + s from by omega]
      rfl

/-! ### a new line behind, and more -/
theorem skip_join (b : List Int) : ∀ m l, skip m (l ++ 10 :: b) = if skip m l = [] then skip false b else skip m l ++ 10 :: b
  | false, [] => by rw [List.nil_append, skip, if_pos (by decide)]; rfl
  | true, [] => by rw [List.nil_append, skip, if_pos (by decide)]; rfl
  | false, c :: r => by
    rw [List.cons_append, skip, skip]
    by_cases h : isBlank c = true
    · rw [if_pos h, if_pos h]; exact skip_join b false r
    · rw [if_neg h, if_neg h]
      have e : ((r ++ 10 :: b).head? == some 45) = (r.head? == some 45) := by cases r <;> rfl
      rw [e]
      by_cases h2 : (c == 45 && r.head? == some 45) = true
      · rw [if_pos h2, if_pos h2]; exact skip_join b true r
      · rw [if_neg h2, if_neg h2, if_neg (by simp)]; rfl
  | true, c :: r => by
    rw [List.cons_append, skip, skip]
    by_cases h : (c == 10) = true
    · rw [if_pos h, if_pos h]; exact skip_join b false r
    · rw [if_neg h, if_neg h]; exact skip_join b true r
theorem while_join (p : Int → Bool) (hp : p 10 = false) (b : List Int) : ∀ r, (r ++ 10 :: b).takeWhile p = r.takeWhile p ∧ (r ++ 10 :: b).dropWhile p = r.dropWhile p ++ 10 :: b
  | [] => by constructor <;> simp [hp]
  | c :: r => by
    obtain ⟨h1, h2⟩ := while_join p hp b r
    rw [List.cons_append, List.takeWhile_cons, List.takeWhile_cons, List.dropWhile_cons, List.dropWhile_cons, h1, h2]
    cases p c <;> simp
theorem num_join (b r : List Int) : num (r ++ 10 :: b) = ((num r).1, (num r).2 ++ 10 :: b) := by
  obtain ⟨h1, h2⟩ := while_join isDigit (by decide) b r
  unfold num
  rw [h1, h2]
  cases hd : r.dropWhile isDigit with
  | nil => cases b with
    | nil => rfl
    | cons d r2 => rw [List.nil_append]; simp
  | cons a r1 => cases r1 with
    | nil => simp [show isDigit 10 = false from by decide]
    | cons d r2 =>
      simp only [List.cons_append]
      obtain ⟨h3, h4⟩ := while_join isDigit (by decide) b r2
      by_cases hc : (a == 46 && isDigit d) = true
      · rw [if_pos hc, if_pos hc, h3, h4]
      · rw [if_neg hc, if_neg hc]; rfl
theorem one_join (b r : List Int) (c : Int) : one (c :: (r ++ 10 :: b)) = (one (c :: r)).map fun x => (x.1, x.2.1, x.2.2 ++ 10 :: b) := by
  obtain ⟨h1, h2⟩ := while_join isIn (by decide) b r
  unfold one
  simp only [h1, h2, num_join]
  by_cases ha : (isSmall c || isLarge c) = true
  · rw [if_pos ha, if_pos ha]; rfl
  rw [if_neg ha, if_neg ha]
  by_cases hb : isDigit c = true
  · rw [if_pos hb, if_pos hb]; rfl
  rw [if_neg hb, if_neg hb]
  cases r with
  | nil =>
    simp only [List.nil_append]
    have e : isSign2 c 10 = false := by simp [isSign2]
    rw [e, if_neg (by decide)]
    by_cases hs : isSign1 c = true
    · rw [if_pos hs, if_pos hs]; rfl
    · rw [if_neg hs, if_neg hs]; rfl
  | cons d r2 =>
    simp only [List.cons_append]
    by_cases h2 : isSign2 c d = true
    · rw [if_pos h2, if_pos h2]; rfl
    · rw [if_neg h2, if_neg h2]
      by_cases hs : isSign1 c = true
      · rw [if_pos hs, if_pos hs]; rfl
      · rw [if_neg hs, if_neg hs]; rfl
theorem lexN_join (n : Nat) (b l : List Int) : lexN (n + (b.length + 1)) (l ++ 10 :: b) = match lexN n l with
    | .inl e => .inl e
    | .inr ts => match lexN (n + (b.length + 1)) b with
      | .inl e => .inl e
      | .inr us => .inr (ts.dropLast ++ us) := by
  refine lex_ind (p := fun l => lexN (n + (b.length + 1)) (l ++ 10 :: b) = match lexN n l with
    | .inl e => .inl e
    | .inr ts => match lexN (n + (b.length + 1)) b with
      | .inl e => .inl e
      | .inr us => .inr (ts.dropLast ++ us)) ?_ ?_ ?_ (l.length + 1) l (by omega)
  · intro l h
    have e := skip_join b false l
    rw [if_pos h] at e
    rw [lexN_skip e, lexN_nil h]
    dsimp only
    cases lexN (n + (b.length + 1)) b <;> rfl
  · intro l c r h ho
    have e := skip_join b false l
    rw [if_neg (by rw [h]; simp), h, List.cons_append] at e
    have o := one_join b r c
    rw [ho] at o
    rw [lexN_none e o, lexN_none h ho]
    show Sum.inl _ = Sum.inl _
    rw [List.length_append, List.length_cons]
    congr 1; omega
  · intro l c r kd t rest h ho _ _ ih
    have e := skip_join b false l
    rw [if_neg (by rw [h]; simp), h, List.cons_append] at e
    have o := one_join b r c
    rw [ho] at o
    rw [lexN_step e o, lexN_step h ho]
    dsimp only
    rw [ih]
    cases hx : lexN n rest with
    | inl e' => rfl
    | inr ts =>
      dsimp only
      cases lexN (n + (b.length + 1)) b with
      | inl e' => rfl
      | inr us =>
        dsimp only
        obtain ⟨vs, rfl⟩ := lexN_end n rest ts hx
        have e1 : n + (b.length + 1) - ((r ++ 10 :: b).length + 1) = n - (r.length + 1) := by rw [List.length_append, List.length_cons]; omega
        have e2 : ∀ x : Int × List Int × Nat, (x :: (vs ++ [(0, [], n)])).dropLast = x :: vs := by intro x; rw [← List.cons_append, List.dropLast_concat]
        rw [e2, List.dropLast_concat]
        rw [e1]
        rfl
end Go.Proofs.Ytnnjanhibomijaa.LexSpec
