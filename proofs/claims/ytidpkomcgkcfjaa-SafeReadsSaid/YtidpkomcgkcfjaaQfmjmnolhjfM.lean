import Derived.Test.YtidpkomcgkcfjaaQiikceeiaonM
import Derived.Deep.Slices
import Derived.Deep.Fields
import Derived.ChangeSame
import Derived.ChangeArms
import Derived.DataReads
import Derived.Laws.Strings
section
/- The executor, part 14: what is handed in from outside, told cell by cell, for whatever type whose layout is told. No condition. -/
namespace Go.Proofs.Ytidpkomcgkcfjaa.Ev
open Go Go.RowKit Go.ChangeShapes Go.WideShapes Go.Deep Go.Proofs.YtidpkomcgkcfjaaW.PrintWords Go.Proofs.YtidpkomcgkcfjaaW.PrintLast
set_option linter.unusedVariables false
set_option linter.unusedSimpArgs false
def szs (L : Lays) (t : Nat) : Nat := match lay L t with
  | some y => y.size
  | none => 0
def tight (L : Lays) : Nat → List (Nat × Nat) → Option Nat
  | n, [] => some n
  | n, (o, t) :: r => bif Nat.beq o n && (lay L t).isSome then tight L (n + szs L t) r else none
def tights (L : Lays) : Bool := L.all fun p => match p.2.kind with
  | .st fl => (match tight L 0 fl with
    | some n => Nat.beq n p.2.size
    | none => false)
  | .sl e => (lay L e).isSome && Nat.blt 0 (szs L e)
  | .sc => false
  | _ => true
inductive Shp (L : Lays) : Nat → List AC → Prop
  | bool {t : Nat} {sz : Nat} {z : List AC} (b : Bool) : lay L t = some ⟨sz, z, .bool⟩ → Shp L t [.v (.bool b)]
  | int {t : Nat} {sz : Nat} {z : List AC} {k : IntKind} (x : Int) : lay L t = some ⟨sz, z, .int k⟩ → (Lit.int k x).wf = true → Shp L t [.v (.int k x)]
  | str {t : Nat} {sz : Nat} {z : List AC} (x : ByteArray) : lay L t = some ⟨sz, z, .str⟩ → x.size ≤ maxLen → Shp L t [.v (.string x)]
  | st {t : Nat} {sz : Nat} {z : List AC} {fl : List (Nat × Nat)} (ps : List (List AC)) : lay L t = some ⟨sz, z, .st fl⟩ → ps.length = fl.length → (∀ (j : Nat) p o u, ps[j]? = some p → fl[j]? = some (o, u) → Shp L u p) → Shp L t ps.flatten
  | sl {t : Nat} {sz : Nat} {z : List AC} {e : Nat} (es : List (List AC)) : lay L t = some ⟨sz, z, .sl e⟩ → es.length ≤ maxLen → (∀ c ∈ es, Shp L e c) → Shp L t [.row (szs L e) es.length es]
theorem Shp.of_bool {L : Lays} {t sz : Nat} {z : List AC} {cs : List AC} (h : Shp L t cs) (hl : lay L t = some ⟨sz, z, .bool⟩) : ∃ b, cs = [.v (.bool b)] := by
  cases h with
  | bool b _ => exact ⟨b, rfl⟩
  | _ => simp_all
theorem Shp.of_int {L : Lays} {t sz : Nat} {z : List AC} {k : IntKind} {cs : List AC} (h : Shp L t cs) (hl : lay L t = some ⟨sz, z, .int k⟩) : ∃ x, cs = [.v (.int k x)] ∧ (Lit.int k x).wf = true := by
  cases h with
  | int x h1 h2 => rw [hl] at h1; cases h1; exact ⟨x, rfl, h2⟩
  | _ => simp_all
theorem Shp.of_str {L : Lays} {t sz : Nat} {z : List AC} {cs : List AC} (h : Shp L t cs) (hl : lay L t = some ⟨sz, z, .str⟩) : ∃ x : ByteArray, cs = [.v (.string x)] ∧ x.size ≤ maxLen := by
  cases h with
  | str x h1 h2 => exact ⟨x, rfl, h2⟩
  | _ => simp_all
theorem Shp.of_st {L : Lays} {t sz : Nat} {z : List AC} {fl : List (Nat × Nat)} {cs : List AC} (h : Shp L t cs) (hl : lay L t = some ⟨sz, z, .st fl⟩) : ∃ ps : List (List AC), cs = ps.flatten ∧ ps.length = fl.length ∧ ∀ (j : Nat) p o u, ps[j]? = some p → fl[j]? = some (o, u) → Shp L u p := by
  cases h with
  | st ps h1 h2 h3 => rw [hl] at h1; cases h1; exact ⟨ps, rfl, h2, h3⟩
  | _ => simp_all
theorem Shp.of_sl {L : Lays} {t sz : Nat} {z : List AC} {e : Nat} {cs : List AC} (h : Shp L t cs) (hl : lay L t = some ⟨sz, z, .sl e⟩) : ∃ es : List (List AC), cs = [.row (szs L e) es.length es] ∧ es.length ≤ maxLen ∧ ∀ c ∈ es, Shp L e c := by
  cases h with
  | sl es h1 h2 h3 => rw [hl] at h1; cases h1; exact ⟨es, rfl, h2, h3⟩
  | _ => simp_all
section
variable {H : Type} {enc : TypeId × Value → H} {P : Program} {L : Lays} {W : World} {base : Nat} {spare : Nat → Bool} {held : Bool}
theorem cells_lay (hL : LaysOk P L) {t : Nat} {y : Lay} (h : lay L t = some y) : P.cellsOf t = y.size := by
  obtain ⟨i, hi, hs, _⟩ := (hL t y h).info
  unfold Program.cellsOf
  rw [hi]
  exact hs
theorem choose_list {α : Type} {p : Nat → α → Prop} : ∀ n : Nat, (∀ i, i < n → ∃ x, p i x) → ∃ l : List α, l.length = n ∧ ∀ (i : Nat) x, l[i]? = some x → p i x
  | 0, _ => ⟨[], rfl, fun i x h => by cases h⟩
  | n + 1, h => by
    obtain ⟨l, h1, h2⟩ := choose_list n (fun i hi => h i (by omega))
    obtain ⟨x, hx⟩ := h n (by omega)
    refine ⟨l ++ [x], by simp [h1], fun i y hy => ?_⟩
    by_cases hi : i < l.length
    · rw [List.getElem?_append_left hi] at hy; exact h2 i y hy
    · rw [List.getElem?_append_right (by omega)] at hy
      have : i = n := by
        have := (List.getElem?_eq_some_iff.1 hy).1
        simp at this
        omega
      subst this
      simp [h1] at hy
      exact hy ▸ hx
theorem tight_at : ∀ {fl : List (Nat × Nat)} {n m : Nat}, tight L n fl = some m → n ≤ m ∧ ∀ (j : Nat) o u, fl[j]? = some (o, u) → ∃ y, lay L u = some y ∧ n ≤ o ∧ o + y.size ≤ m
  | [], n, m, h => by cases h; exact ⟨Nat.le_refl _, fun j o u h => by cases h⟩
  | (o, t) :: r, n, m, h => by
    unfold tight at h
    cases hb : (Nat.beq o n && (lay L t).isSome) with
    | false => rw [hb] at h; cases h
    | true =>
      rw [hb] at h
      rw [Bool.and_eq_true] at hb
      have e := Nat.eq_of_beq_eq_true hb.1
      subst e
      obtain ⟨y, hy⟩ := Option.isSome_iff_exists.1 hb.2
      have hs : szs L t = y.size := by unfold szs; rw [hy]
      obtain ⟨h1, h2⟩ := tight_at (by simpa using h)
      rw [hs] at h1 h2
      refine ⟨by omega, fun j o' u hj => ?_⟩
      cases j with
      | zero => cases hj; exact ⟨y, hy, Nat.le_refl _, h1⟩
      | succ j =>
        obtain ⟨y', h3, h4, h5⟩ := h2 j o' u (by simpa using hj)
        exact ⟨y', h3, by omega, h5⟩
theorem parts_at {ok : Nat → Prop} {us : List Value} : ∀ {fl : List (Nat × Nat)} {n m : Nat} {ps : List (List AC)}, tight L n fl = some m → m ≤ us.length → ps.length = fl.length →
    (∀ (j : Nat) p o u, ps[j]? = some p → fl[j]? = some (o, u) → TL [] ok W p ((us.drop o).take (szs L u))) → TL [] ok W ps.flatten ((us.drop n).take (m - n))
  | [], n, m, ps, h, hm, hl, hT => by
    cases h
    have : ps = [] := List.eq_nil_of_length_eq_zero hl
    subst this
    simp only [Nat.sub_self, List.take_zero, List.flatten_nil]
    exact ⟨rfl, fun j c u hc => by cases hc⟩
  | (o, t) :: r, n, m, [], h, hm, hl, hT => by simp at hl
  | (o, t) :: r, n, m, p :: ps, h, hm, hl, hT => by
    have h0 := h
    unfold tight at h
    cases hb : (Nat.beq o n && (lay L t).isSome) with
    | false => rw [hb] at h; cases h
    | true =>
      rw [hb] at h
      rw [Bool.and_eq_true] at hb
      have e := Nat.eq_of_beq_eq_true hb.1
      subst e
      have h1 := hT 0 p o t rfl rfl
      have h2 := parts_at (ps := ps) (by simpa using h) hm (by simpa using hl) (fun j p o u hp hf => hT (j + 1) p o u (by simpa using hp) (by simpa using hf))
      have h3 := (tight_at (by simpa using h : tight L (o + szs L t) r = some m)).1
      have h4 := h1.append h2
      rw [List.flatten_cons]
      have e2 : (us.drop o).take (m - o) = (us.drop o).take (szs L t) ++ ((us.drop (o + szs L t)).take (m - (o + szs L t))) := by
        rw [show m - o = szs L t + (m - (o + szs L t)) by omega, List.take_add, List.drop_drop]
      rw [e2]
      exact h4
theorem lays_mem {t : Nat} {y : Lay} (h : lay L t = some y) : (t, y) ∈ L := lay_mem h
theorem trod_lt_cell {b : Addr} {n : Nat} {cs : List Value} (h : W.cells? base b n = some cs) {j : Nat} (hj : j < n) : b.block < W.heap.size := by
  obtain ⟨_, hl, hat⟩ := World.cells?_some h
  have := hat j hj
  rw [List.getElem?_eq_getElem (by omega)] at this
  rw [← add_block b j]
  unfold World.cell? at this
  split at this
  · rename_i heq
    exact (Array.getElem?_eq_some_iff.1 heq).1
  · cases this
theorem TL.of {ok : Nat → Prop} {c : AC} {u : Value} (h : TC [] ok W c u) : TL [] ok W [c] [u] := ⟨rfl, fun j a b ha hb => by
  cases j with
  | zero => cases ha; cases hb; exact h
  | succ j => cases ha⟩
theorem Shp.plain {t : Nat} {cs : List AC} (h : Shp L t cs) : ∀ c ∈ cs, c.noptr = true := by
  induction h with
  | bool b _ => intro c hc; rw [List.mem_singleton.1 hc]; rfl
  | int x _ _ => intro c hc; rw [List.mem_singleton.1 hc]; rfl
  | str x _ _ => intro c hc; rw [List.mem_singleton.1 hc]; rfl
  | @st t sz z fl ps hl hn _ ih =>
    intro c hc
    obtain ⟨p, hp, hcp⟩ := List.mem_flatten.1 hc
    obtain ⟨j, hj, he⟩ := List.mem_iff_getElem.1 hp
    exact ih j p _ _ (he ▸ List.getElem?_eq_getElem hj) (List.getElem?_eq_getElem (show j < fl.length by omega)) c hcp
  | sl es _ _ _ _ => intro c hc; rw [List.mem_singleton.1 hc]; rfl
theorem row_told {k len cap : Nat} {a : Addr} {qs : List (List AC × List Value)} (hl : qs.length = len) (hc : len ≤ cap) (hm : cap ≤ maxLen) (hk : 0 < k) (h : ∀ (i : Nat) q, qs[i]? = some q → W.cells? base (a.add (i * k)) k = some q.2 ∧ TL [] (fun b => b < W.heap.size) W q.1 q.2 ∧ ∀ c ∈ q.1, c.noptr = true) :
    TC [] (fun b => b < W.heap.size) W (.row k len (qs.map Prod.fst)) (.slice (some a) len cap) := by
  show Foot (fun W => Rd W _ _) W _
  refine foot_mk fun W' hW' => ?_
  have at_ : ∀ (i : Nat) us, (qs.map Prod.snd)[i]? = some us → us.length = k ∧ ∀ (j : Nat) u, us[j]? = some u → W'.cell? (a.add (i * k + j)) = some u := fun i us hus => by
    rw [List.getElem?_map, Option.map_eq_some_iff] at hus
    obtain ⟨q, hq, rfl⟩ := hus
    obtain ⟨h1, h2, _⟩ := h i q hq
    obtain ⟨_, h3, h4⟩ := World.cells?_some h1
    refine ⟨h3, fun j u hu => ?_⟩
    have hj : j < k := by rw [← h3]; exact (List.getElem?_eq_some_iff.1 hu).1
    have h5 := (h4 j hj).trans hu
    rw [add_add] at h5
    rw [← h5]
    refine cell_block (hW' _ ?_ ?_)
    all_goals
      rw [add_block]
      have := trod_lt_cell h1 hk
      rw [add_block] at this
      exact this
  refine Rd.row k len _ a cap (qs.map Prod.snd) (by simp [hl]) hc (Nat.le_trans (Nat.le_trans hc hm) (by decide)) (by simp [hl]) at_ (fun i cs hcs => ?_) (fun i cs us j c u hcs hus hc hu => ?_)
  · have hq : ∃ q, qs[i]? = some q ∧ q.1 = cs := by
      rw [List.getElem?_map, Option.map_eq_some_iff] at hcs
      exact hcs
    obtain ⟨q, hq, rfl⟩ := hq
    have h1 := (at_ i q.2 (by rw [List.getElem?_map, hq]; rfl)).1
    have h2 := (h i q hq).2.1.1
    omega
  · rw [List.getElem?_map, Option.map_eq_some_iff] at hcs hus
    obtain ⟨q, hq, rfl⟩ := hcs
    obtain ⟨q', hq', rfl⟩ := hus
    rw [hq] at hq'
    cases hq'
    have h9 := (h i q hq).2.1.2 j c u hc hu
    exact h9.rd ((h i q hq).2.2 c (List.mem_of_getElem? hc)) (fun b hb hlt => hW' b hb hlt)
theorem trod_told (hL : LaysOk P L) (ht : tights L = true) : ∀ (fuel : Nat) {t : Nat} {y : Lay} {us : List Value} {x : DataW H × List MemPlace}, lay L t = some y → DataW.trod enc P W base spare held fuel t us = some x →
    ∃ cs, Shp L t cs ∧ TL [] (fun k => k < W.heap.size) W cs us
  | 0, t, y, us, x, hy, h => by simp [DataW.trod] at h
  | n + 1, t, y, us, x, hy, h => by
    have lit : ∀ {v : Value}, v.oneCell' = true → TL [] (fun k => k < W.heap.size) W [.v v] [v] := fun {v} hv => TL.of (TC.of_v hv)
    obtain ⟨d, hd, hk⟩ := (hL t y hy).under
    have htt := List.all_eq_true.1 ht (t, y) (lays_mem hy)
    obtain ⟨sz, z, kd⟩ := y
    cases kd with
    | sc => cases htt
    | bool =>
      cases hk
      obtain ⟨b, rfl, _⟩ := DataW.trod_bool hd h
      exact ⟨_, .bool b hy, lit rfl⟩
    | int k =>
      cases hk
      obtain ⟨b, rfl, _, hw⟩ := DataW.trod_int hd h
      exact ⟨_, .int b hy hw, lit rfl⟩
    | str =>
      cases hk
      obtain ⟨b, rfl, _, hw⟩ := DataW.trod_string hd h
      exact ⟨_, .str b hy hw, lit rfl⟩
    | st fl =>
      obtain ⟨fs, rfl, hfl⟩ := hk
      obtain ⟨xs, m, hm, _, hlen, hxl, hf⟩ := DataW.trod_struct hd h
      cases hm
      have htt : (match tight L 0 fl with
        | some n => Nat.beq n sz
        | none => false) = true := htt
      cases hti : tight L 0 fl with
      | none => rw [hti] at htt; cases htt
      | some sz' =>
        rw [hti] at htt
        have e : sz' = sz := Nat.eq_of_beq_eq_true htt
        subst e
        have hcs : us.length = sz' := hlen.trans (cells_lay hL hy)
        have hfs : fl.length = fs.size := by rw [← hfl]; simp
        have each : ∀ j, j < fl.length → ∃ p : List AC, ∀ o u, fl[j]? = some (o, u) → Shp L u p ∧ TL [] (fun k => k < W.heap.size) W p ((us.drop o).take (szs L u)) := fun j hj => by
          have hfj : j < fs.size := by omega
          have e1 : fl[j]? = some (fs[j].offset, fs[j].type) := by
            rw [← hfl, List.getElem?_map]
            have : fs.toList[j]? = some fs[j] := by simp [hfj]
            rw [this]; rfl
          obtain ⟨y', hy', _, _⟩ := (tight_at hti).2 j _ _ e1
          have h1 := hf j fs[j] (Array.getElem?_eq_getElem hfj)
          have h2 : xs[j]? = some xs[j] := List.getElem?_eq_getElem (by omega)
          rw [h2] at h1
          obtain ⟨p, hp1, hp2⟩ := trod_told hL ht n hy' h1
          refine ⟨p, fun o u hou => ?_⟩
          rw [e1] at hou
          cases hou
          refine ⟨hp1, ?_⟩
          rw [cells_lay hL hy'] at hp2
          unfold szs
          rw [hy']
          exact hp2
        obtain ⟨ps, hps, hp⟩ := choose_list fl.length each
        refine ⟨ps.flatten, .st ps hy hps (fun j p o u hpj hfj => (hp j p hpj o u hfj).1), ?_⟩
        have := parts_at (W := W) (ok := fun k => k < W.heap.size) (us := us) hti (by omega) hps (fun j p o u hpj hfj => (hp j p hpj o u hfj).2)
        rw [List.drop_zero, Nat.sub_zero, List.take_of_length_le (by omega)] at this
        exact this
    | sl e =>
      cases hk
      have htt : ((lay L e).isSome && Nat.blt 0 (szs L e)) = true := htt
      rw [Bool.and_eq_true] at htt
      obtain ⟨ye, hye⟩ := Option.isSome_iff_exists.1 htt.1
      have hpos := of_decide_eq_true ((show decide (0 < szs L e) = Nat.blt 0 (szs L e) by rw [Bool.eq_iff_iff, decide_eq_true_iff, Nat.blt_eq]).trans htt.2)
      have hsz : szs L e = ye.size := by unfold szs; rw [hye]
      have hce : P.cellsOf e = szs L e := (cells_lay hL hye).trans hsz.symm
      rcases DataW.trod_slice hd h with ⟨rfl, _⟩ | ⟨a, len, cap, el, rest, m, hm, rfl, _, hb, hlc, hcm, hel, hi, _, _⟩
      · exact ⟨_, .sl [] hy (Nat.zero_le _) (fun c hc => by cases hc), TL.of (foot_mk fun W' _ => Rd.nil _ none 0 : Foot (fun W => Rd W (.row _ 0 []) (.slice none 0 0)) W _)⟩
      · cases hm
        rw [hce] at hi
        have each : ∀ i, i < len → ∃ q : List AC × List Value, (W.cells? base (a.add (i * szs L e)) (szs L e) = some q.2 ∧ TL [] (fun k => k < W.heap.size) W q.1 q.2 ∧ ∀ c ∈ q.1, c.noptr = true) ∧ Shp L e q.1 := fun i hlt => by
          have h1 := hi i hlt
          rw [List.getElem?_eq_getElem (by omega)] at h1
          obtain ⟨us, h2, h3⟩ := Option.bind_eq_some_iff.1 h1
          obtain ⟨cs, h4, h5⟩ := trod_told hL ht n hye h3
          exact ⟨(cs, us), ⟨h2, h5, h4.plain⟩, h4⟩
        obtain ⟨qs, hql, hq⟩ := choose_list len each
        have hr := row_told (W := W) (base := base) (a := a) hql hlc hcm hpos (fun i q hiq => (hq i q hiq).1)
        refine ⟨[.row (szs L e) (qs.map Prod.fst).length (qs.map Prod.fst)], .sl _ hy (by rw [List.length_map]; omega) (fun c hc => ?_), TL.of (by rw [List.length_map, hql]; exact hr)⟩
        obtain ⟨q, hqm, rfl⟩ := List.mem_map.1 hc
        obtain ⟨i, hi2, he⟩ := List.mem_iff_getElem.1 hqm
        exact (hq i q (he ▸ List.getElem?_eq_getElem hi2)).2
end
end Go.Proofs.Ytidpkomcgkcfjaa.Ev
end
section
/- Object code: what is handed in, read. Printed by a program of this session. No condition. -/
namespace Go.Proofs.Ytidpkomcgkcfjaa.Ev
open Go Go.RowKit Go.ChangeShapes Go.WideShapes Go.Proofs.YtidpkomcgkcfjaaW.PrintWords Go.Proofs.YtidpkomcgkcfjaaW.PrintLast Go.Proofs.Ytidpkomcgkcfjaa
set_option linter.unusedVariables false
set_option linter.unusedSimpArgs false
def LR : Lays := [(4, ⟨1, [.v (.bool false)], .bool⟩),
  (3, ⟨1, [.v (.int .i64 0)], .int .i64⟩),
  (9, ⟨1, [.v (.string ⟨#[]⟩)], .str⟩),
  (119, ⟨1, [.v (.int .u32 0)], .int .u32⟩),
  (44, ⟨1, [.row 1 0 []], .sl 119⟩),
  (29, ⟨1, [.row 1 0 []], .sl 3⟩),
  (46, ⟨2, [.v (.bool false), .row 1 0 []], .st [(0, 4), (1, 44)]⟩),
  (48, ⟨3, [.v (.bool false), .row 1 0 [], .row 1 0 []], .st [(0, 46), (2, 44)]⟩),
  (50, ⟨5, [.v (.int .i64 0), .v (.bool false), .row 1 0 [], .row 1 0 [], .v (.string ⟨#[]⟩)], .st [(0, 3), (1, 48), (4, 9)]⟩),
  (22, ⟨1, [.row 5 0 []], .sl 50⟩),
  (52, ⟨11, [.v (.string ⟨#[]⟩), .v (.int .i64 0), .row 1 0 [], .v (.int .i64 0), .v (.int .i64 0), .v (.bool false), .row 1 0 [], .row 1 0 [], .v (.string ⟨#[]⟩), .v (.int .i64 0), .row 1 0 []], .st [(0, 9), (1, 3), (2, 29), (3, 3), (4, 50), (9, 3), (10, 29)]⟩),
  (23, ⟨1, [.row 11 0 []], .sl 52⟩),
  (25, ⟨10, [.v (.int .i64 0), .v (.int .i64 0), .v (.int .i64 0), .v (.int .i64 0), .v (.int .i64 0), .row 5 0 [], .row 5 0 [], .row 11 0 [], .row 11 0 [], .row 11 0 []], .st [(0, 3), (1, 3), (2, 3), (3, 3), (4, 3), (5, 22), (6, 22), (7, 23), (8, 23), (9, 23)]⟩)]
theorem LR_ok : LaysOk Try.prog LR := lays_ok (by kernel_rfl) (by kernel_rfl)
theorem LR_tight : tights LR = true := by kernel_rfl
theorem map_of {α : Type} {p : List AC → Prop} {f : α → List AC} (h : ∀ c, p c → ∃ x, c = f x) : ∀ es : List (List AC), (∀ c ∈ es, p c) → ∃ l : List α, es = l.map f
  | [], _ => ⟨[], rfl⟩
  | c :: es, hp => by
    obtain ⟨x, rfl⟩ := h c (hp c (List.mem_cons_self ..))
    obtain ⟨l, rfl⟩ := map_of h es (fun c hc => hp c (List.mem_cons_of_mem _ hc))
    exact ⟨x :: l, rfl⟩
theorem shp_u32 {cs : List AC} (h : Shp LR 119 cs) : ∃ x, cs = [.v (.int .u32 x)] := by
  obtain ⟨x, h, _⟩ := h.of_int rfl
  exact ⟨x, h⟩
theorem shp_int {cs : List AC} (h : Shp LR 3 cs) : ∃ x, cs = [.v (.int .i64 x)] := by
  obtain ⟨x, h, _⟩ := h.of_int rfl
  exact ⟨x, h⟩
theorem shp_bool {cs : List AC} (h : Shp LR 4 cs) : ∃ x, cs = [.v (.bool x)] := h.of_bool rfl
theorem shp_str {cs : List AC} (h : Shp LR 9 cs) : ∃ x, cs = [.v (.string x)] := by
  obtain ⟨x, h, _⟩ := h.of_str rfl
  exact ⟨x, h⟩
theorem shp_limbs {cs : List AC} (h : Shp LR 44 cs) : ∃ l, cs = [limbs l] := by
  obtain ⟨es, rfl, _, he⟩ := h.of_sl rfl
  obtain ⟨l, rfl⟩ := map_of (fun c hc => shp_u32 hc) es he
  exact ⟨l, by unfold limbs; rw [List.length_map]; rfl⟩
theorem shp_ints {cs : List AC} (h : Shp LR 29 cs) : ∃ l, cs = [ints l] := by
  obtain ⟨es, rfl, _, he⟩ := h.of_sl rfl
  obtain ⟨l, rfl⟩ := map_of (fun c hc => shp_int hc) es he
  exact ⟨l, by unfold ints; rw [List.length_map]; rfl⟩
theorem shp_Int {cs : List AC} (h : Shp LR 46 cs) : ∃ b l, cs = [.v (.bool b), limbs l] := by
  obtain ⟨ps, rfl, hl, h⟩ := h.of_st rfl
  match ps, hl with
  | [p0, p1], _ =>
    obtain ⟨b, rfl⟩ := shp_bool (h 0 _ _ _ rfl rfl)
    obtain ⟨l, rfl⟩ := shp_limbs (h 1 _ _ _ rfl rfl)
    exact ⟨b, l, rfl⟩
theorem shp_Rat {cs : List AC} (h : Shp LR 48 cs) : ∃ b l m, cs = [.v (.bool b), limbs l, limbs m] := by
  obtain ⟨ps, rfl, hl, h⟩ := h.of_st rfl
  match ps, hl with
  | [p0, p1], _ =>
    obtain ⟨b, l, rfl⟩ := shp_Int (h 0 _ _ _ rfl rfl)
    obtain ⟨m, rfl⟩ := shp_limbs (h 1 _ _ _ rfl rfl)
    exact ⟨b, l, m, rfl⟩
theorem shp_Val {cs : List AC} (h : Shp LR 50 cs) : ∃ v : Val, cs = v.c := by
  obtain ⟨ps, rfl, hl, h⟩ := h.of_st rfl
  match ps, hl with
  | [p0, p1, p2], _ =>
    obtain ⟨k, rfl⟩ := shp_int (h 0 _ _ _ rfl rfl)
    obtain ⟨b, l, m, rfl⟩ := shp_Rat (h 1 _ _ _ rfl rfl)
    obtain ⟨s, rfl⟩ := shp_str (h 2 _ _ _ rfl rfl)
    exact ⟨⟨k, b, l, m, s⟩, rfl⟩
theorem shp_Ins {cs : List AC} (h : Shp LR 52 cs) : ∃ x : Ins, cs = x.c := by
  obtain ⟨ps, rfl, hl, h⟩ := h.of_st rfl
  match ps, hl with
  | [p0, p1, p2, p3, p4, p5, p6], _ =>
    obtain ⟨op, rfl⟩ := shp_str (h 0 _ _ _ rfl rfl)
    obtain ⟨d, rfl⟩ := shp_int (h 1 _ _ _ rfl rfl)
    obtain ⟨a, rfl⟩ := shp_ints (h 2 _ _ _ rfl rfl)
    obtain ⟨k, rfl⟩ := shp_int (h 3 _ _ _ rfl rfl)
    obtain ⟨v, rfl⟩ := shp_Val (h 4 _ _ _ rfl rfl)
    obtain ⟨g, rfl⟩ := shp_int (h 5 _ _ _ rfl rfl)
    obtain ⟨r, rfl⟩ := shp_ints (h 6 _ _ _ rfl rfl)
    exact ⟨⟨op, d, a, k, v, g, r⟩, rfl⟩
theorem shp_vals {cs : List AC} (h : Shp LR 22 cs) : ∃ l, cs = [vals' l] := by
  obtain ⟨es, rfl, _, he⟩ := h.of_sl rfl
  obtain ⟨l, rfl⟩ := map_of (fun c hc => shp_Val hc) es he
  exact ⟨l, by unfold vals'; rw [List.length_map]; rfl⟩
theorem shp_inss {cs : List AC} (h : Shp LR 23 cs) : ∃ l, cs = [inss l] := by
  obtain ⟨es, rfl, _, he⟩ := h.of_sl rfl
  obtain ⟨l, rfl⟩ := map_of (fun c hc => shp_Ins hc) es he
  exact ⟨l, by unfold inss; rw [List.length_map]; rfl⟩
theorem shp_Cod {cs : List AC} (h : Shp LR 25 cs) : ∃ c : Cod, cs = c.c := by
  obtain ⟨ps, rfl, hl, h⟩ := h.of_st rfl
  match ps, hl with
  | [p0, p1, p2, p3, p4, p5, p6, p7, p8, p9], _ =>
    obtain ⟨a, rfl⟩ := shp_int (h 0 _ _ _ rfl rfl)
    obtain ⟨b, rfl⟩ := shp_int (h 1 _ _ _ rfl rfl)
    obtain ⟨e, rfl⟩ := shp_int (h 2 _ _ _ rfl rfl)
    obtain ⟨f, rfl⟩ := shp_int (h 3 _ _ _ rfl rfl)
    obtain ⟨g, rfl⟩ := shp_int (h 4 _ _ _ rfl rfl)
    obtain ⟨i, rfl⟩ := shp_vals (h 5 _ _ _ rfl rfl)
    obtain ⟨j, rfl⟩ := shp_vals (h 6 _ _ _ rfl rfl)
    obtain ⟨k, rfl⟩ := shp_inss (h 7 _ _ _ rfl rfl)
    obtain ⟨l, rfl⟩ := shp_inss (h 8 _ _ _ rfl rfl)
    obtain ⟨m, rfl⟩ := shp_inss (h 9 _ _ _ rfl rfl)
    exact ⟨⟨a, b, e, f, g, i, j, k, l, m⟩, rfl⟩
section
variable {H : Type} {enc : TypeId × Value → H} {W : World} {base : Nat} {spare : Nat → Bool} {held : Bool} {r : Reach} {b0 : Nat}
set_option maxRecDepth 100000 in
theorem code_told {v : Value} {d : DataW H} {p : List MemPlace} (hv : Value.okWide Try.prog W r b0 25 v) (h : DataW.Trod enc Try.prog W base spare held 25 v d p) :
    ∃ c : Cod, TG [] (fun k => k < W.heap.size) W (.agg c.c) v := by
  obtain ⟨cs, rfl, hcs⟩ := okWide_struct Try.underlying25 hv
  obtain ⟨fuel, hf⟩ := h
  obtain ⟨ac, hs, hT⟩ := trod_told LR_ok LR_tight fuel (t := 25) rfl hf
  obtain ⟨c, rfl⟩ := shp_Cod hs
  exact ⟨c, cs, rfl, hT⟩
end
theorem args1 {ok : Nat → Prop} {w : World} {x : AG} {u : Value} (h : TG [] ok w x u) : TA ok w [x] #[u] := ⟨rfl, fun j a b ha hb => by
  match j with
  | 0 => cases ha; simp at hb; subst hb; exact h
  | j + 1 => simp at ha⟩
theorem ConF.holds {f : FuncId} {xs : List AG} (h : ConF Try.prog f xs (.g (truth true))) {ok : Nat → Prop} {us : Array Value} {w : World} (hA : TA ok w xs us) : Calls Try.prog f us w fun e w' => e = .returned (.bool true) ∧ Below w.heap.size w w' := by
  refine (h.2 ok us w hA).mono ?_
  rintro e w' ⟨u, rfl, hT, hb⟩
  have := TC.v_eq (show TC [] _ w' (.v (.bool true)) u from hT)
  exact ⟨by rw [this], hb⟩
theorem byF {f : FuncId} {fn : Func} {c : Code} {xs : List AG} (r : AV) (hf : Try.prog.funcs[f]? = some fn) (hb : fn.body = some c) (pf : List (Prf Try.prog)) (h : evF LL DD fn c xs (Prf.ans pf) = some (r, [], Prf.dem pf)) (hname : (fn.name == "runtime.NumGoroutine") = false := by kernel_rfl) : ConF Try.prog f xs r :=
  conF_of LL_ok DD_ok pf hf hname hb h
theorem ConF.to {f : FuncId} {xs : List AG} {r r' : AV} (h : ConF Try.prog f xs r) (e : r = r') : ConF Try.prog f xs r' := e ▸ h
end Go.Proofs.Ytidpkomcgkcfjaa.Ev
end
section
/- Object code: the law about what may run. Printed by a program of this session. No condition. -/
namespace Go.Proofs.Ytidpkomcgkcfjaa.Ev
open Go Go.RowKit Go.Proofs.YtidpkomcgkcfjaaW.PrintWords Go.Proofs.YtidpkomcgkcfjaaW.PrintLast Go.Proofs.Ytidpkomcgkcfjaa
set_option linter.unusedVariables false
set_option linter.unusedSimpArgs false
def safeRights (c : Cod) : Bool := bif few c then (bif (rightF c == rRight c) then (true) else (false)) else (true)
end Go.Proofs.Ytidpkomcgkcfjaa.Ev
end
section
/- Object code: the laws about bodies and about a cut. Printed by a program of this session. No condition. -/
namespace Go.Proofs.Ytidpkomcgkcfjaa.Ev
open Go Go.RowKit Go.Proofs.YtidpkomcgkcfjaaW.PrintWords Go.Proofs.YtidpkomcgkcfjaaW.PrintLast Go.Proofs.Ytidpkomcgkcfjaa
set_option linter.unusedVariables false
set_option linter.unusedSimpArgs false
def bz (b : ByteArray) : Int := ((b[0]?.getD 0).toNat : Int)
def sBodies0 (c : Cod) : Nat → Nat → Sum Unit Bool
  | 0, i => .inl ()
  | d + 1, i => bif is ((gx c.step i).op) (⟨#[115, 108, 111, 112, 101]⟩ : ByteArray) then (.inr false) else (bif is ((gx c.step i).op) (⟨#[97, 115, 107]⟩ : ByteArray) then (.inr false) else (if (((gx c.step i).op).size : Int) > (1 : Int) then (if (bz ((gx c.step i).op)) = (108 : Int) then (bif is ((gx c.step i).op) (⟨#[108, 105, 116]⟩ : ByteArray) then (sBodies0 c d (i + 1) ) else (.inr false)) else (sBodies0 c d (i + 1) )) else (sBodies0 c d (i + 1) )))
def sBodies1 (c : Cod) : Nat → Nat → Sum Unit Bool
  | 0, i => .inl ()
  | d + 1, i => bif is ((gx c.deriv i).op) (⟨#[115, 108, 111, 112, 101]⟩ : ByteArray) then (sBodies1 c d (i + 1) ) else (.inr false)
def sBodies2 (c : Cod) : Nat → Nat → Sum Unit Bool
  | 0, i => .inl ()
  | d + 1, i => bif is ((gx c.cross i).op) (⟨#[97, 115, 107]⟩ : ByteArray) then (sBodies2 c d (i + 1) ) else (if (((gx c.cross i).op).size : Int) < (2 : Int) then (.inr false) else (if (bz ((gx c.cross i).op)) = (108 : Int) then (bif is ((gx c.cross i).op) (⟨#[108, 105, 116]⟩ : ByteArray) then (.inr false) else (sBodies2 c d (i + 1) )) else (.inr false)))
def safeBodies (c : Cod) : Bool := bif few c then (bif rightF c then ((match sBodies0 c c.step.length 0 with | .inl of2 => (match sBodies1 c c.deriv.length 0 with | .inl of3 => (match sBodies2 c c.cross.length 0 with | .inl of4 => true | .inr of4 => of4) | .inr of3 => of3) | .inr of2 => of2)) else (true)) else (true)
def cutC (c : Cod) (k : Nat) : Cod := ⟨c.ins, c.outs, c.slots, c.crosses, c.lines, c.mems, c.conts, c.step.take k, [], []⟩
theorem cut_at {n : Int} {k : Nat} (h0 : ¬ (k : Int) = 0) (h1 : k ≤ 60) : 0 ≤ (IntKind.i64.wrap ((n.tmod (k : Int)) + (k : Int))).tmod (k : Int) ∧ (IntKind.i64.wrap ((n.tmod (k : Int)) + (k : Int))).tmod (k : Int) ≤ (k : Int) := by
  have a : -(k : Int) < n.tmod k ∧ n.tmod k < k := by
    have h2 := Int.natAbs_tmod n (k : Int)
    have h3 : n.natAbs % (k : Int).natAbs < (k : Int).natAbs := Nat.mod_lt _ (by omega)
    omega
  rw [wr (by omega) (by omega)]
  have b := Int.tmod_nonneg (k : Int) (show 0 ≤ n.tmod k + k by omega)
  have d := Int.tmod_lt_of_pos (n.tmod k + k) (show (0 : Int) < k by omega)
  omega
theorem few_step {c : Cod} (h : few c = true) : c.step.length ≤ 60 := (bodyFew_of (few_of h).1).1
def safeCut (c : Cod) (n : Int) : Bool := bif few c then (bif rightF c then (if (c.step.length : Int) = (0 : Int) then (true) else (bif rightF (cutC c (((IntKind.i64.wrap ((n.tmod (c.step.length : Int)) + (c.step.length : Int))).tmod (c.step.length : Int))).toNat) then (true) else (false))) else (true)) else (true)
end Go.Proofs.Ytidpkomcgkcfjaa.Ev
end
section
/- Object code: what may run has instructions of its own in each body, and may be cut: the laws. Pure, but for the last lines. -/
namespace Go.Proofs.Ytidpkomcgkcfjaa.Ev
open Go Go.RowKit Go.Proofs.Ytidpkomcgkcfjaa
set_option linter.unusedVariables false
set_option linter.unusedSimpArgs false
theorem right_runs {c : Cod} (h : rightF c = true) : ([c.ins, c.outs, c.slots, c.crosses, c.lines].any (badP 65537)) = false ∧ (∃ s, bodyRun (Fstep c) c.step (List.replicate c.slots.toNat false, List.replicate c.lines.toNat false) = some s ∧ ∃ s', bodyRun (Fderiv c) c.deriv s = some s' ∧ (bodyRun (Fcross c) c.cross s').isSome = true) := by
  unfold rightF runAll at h
  rw [Bool.and_eq_true] at h
  refine ⟨by simpa using h.1, ?_⟩
  have h2 := h.2
  split at h2
  · cases h2
  · rename_i s hs
    split at h2
    · cases h2
    · rename_i s' hs'
      exact ⟨s, hs, s', hs', h2⟩
end Go.Proofs.Ytidpkomcgkcfjaa.Ev
end
section
/- Object code: what is read was written ahead: the law SafeReads, by the executor. No condition. -/
namespace Go.Proofs.Ytidpkomcgkcfjaa.Ev
open Go Go.RowKit Go.Proofs.YtidpkomcgkcfjaaW.PrintWords Go.Proofs.YtidpkomcgkcfjaaW.PrintLast Go.Proofs.Ytidpkomcgkcfjaa
set_option linter.unusedVariables false
set_option linter.unusedSimpArgs false
def nomore {P : Program} {m : Nat} (h : m = 0) : Prf P := ⟨[.mine], .prop (m = 0), h⟩
def icells (l : List Int) : List AC := l.map fun n => .v (.int .i64 n)
theorem icells_bare (l : List Int) : ∀ c ∈ icells l, c.noptr = true := fun c hc => by
  obtain ⟨b, _, rfl⟩ := List.mem_map.1 hc
  rfl
theorem plainS (sl : List Bool) (l : List Int) : ∀ cs ∈ [bcells sl, icells l], Plain cs := fun cs hc => by
  rcases List.mem_cons.1 hc with rfl | hc
  · exact bcells_bare sl
  · rw [List.mem_singleton.1 hc]; exact icells_bare l
theorem plain1 (sl : List Bool) : ∀ cs ∈ [bcells sl], Plain cs := fun cs hc => by
  rw [List.mem_singleton.1 hc]; exact bcells_bare sl
theorem icells_flat (l : List Int) : (l.map fun n => [AC.v (.int .i64 n)]).flatten = icells l := by
  induction l with
  | nil => rfl
  | cons a r ih => simp only [List.map_cons, List.flatten_cons, ih, icells]; rfl
theorem icells_app (a b : List Int) : icells a ++ (b.map fun n => [AC.v (.int .i64 n)]).flatten = icells (a ++ b) := by
  rw [icells_flat]; simp [icells]
theorem icells_more {a b : List Int} {n : Nat} (hn : n = a.length) (ha : a.length ≤ 60) (hb : b.length ≤ 20) (h : 0 < b.length) : (icells a).length = n * 1 ∧ 0 < b.length ∧ n + b.length ≤ 134217728 ∧ icells a ++ (b.map fun n => [AC.v (.int .i64 n)]).flatten = icells (a ++ b) :=
  ⟨by subst hn; simp [icells], h, by omega, icells_app a b⟩
def readsL (x : Ins) : List Int := x.args ++ x.resets
def regS (N : Nat) (i : Int) : List (Nat × AV) := [(1, .g (.one (.ptr 0 0))), (3, .g (.one (.sl 1 4 1 N))), (4, .g (num i))]
def S8 (N : Nat) (c : Cod) (sl : List Bool) (x : Ins) (i : Int) : St := ⟨sparse 92 (regS N i ++ [(5, .g (.one (.ptr 2 0)))]), [some (false, c.c), some (false, bcells sl), some (false, x.c)], 0⟩
def S9n (N : Nat) (c : Cod) (sl : List Bool) (x : Ins) (n : Nat) (l : List Int) (i : Int) : St := ⟨sparse 92 (regS N i ++ [(5, .g (.one (.ptr 2 0))), (6, .g (.one (.sl 3 3 1 n)))]), [some (false, c.c), some (false, bcells sl), some (false, x.c), some (false, icells l)], 0⟩
def S9 (N : Nat) (c : Cod) (sl : List Bool) (x : Ins) (l : List Int) (i : Int) : St := S9n N c sl x l.length l i
theorem r8 (N : Nat) (c : Cod) (sl : List Bool) (x : Ins) (i : Int) (ha : x.args.length ≤ 20) (hr : x.resets.length ≤ 20) : CodeCon Try.prog (rg Try.f6 8) (S8 N c sl x i) .normal (S9 N c sl x (readsL x) i) := by
  obtain ⟨op, dst, args, k, lit, guard, resets⟩ := x
  simp only at ha hr
  unfold readsL
  simp only
  cases args with
  | nil =>
    cases resets with
    | nil => exact at_m [] _ _ [mine, nomore rfl, nomore rfl] [bcells sl, icells []] (plainS sl []) (by kernel_rfl)
    | cons b r =>
      have h := at_m [] (c := rg Try.f6 8) (p := S8 N c sl ⟨op, dst, [], k, lit, guard, b :: r⟩ i) .normal (S9n N c sl ⟨op, dst, [], k, lit, guard, b :: r⟩ (0 + (b :: r).length) (b :: r) i) [mine, nomore rfl, more (icells_more (n := 0) (a := []) (b := b :: r) rfl (by simp) hr (by simp))] [bcells sl, icells (b :: r)] (plainS sl _) (by kernel_rfl)
      rw [Nat.zero_add] at h
      exact h
  | cons a l =>
    cases resets with
    | nil =>
      rw [List.append_nil]
      have h := at_m [] (c := rg Try.f6 8) (p := S8 N c sl ⟨op, dst, a :: l, k, lit, guard, []⟩ i) .normal (S9n N c sl ⟨op, dst, a :: l, k, lit, guard, []⟩ (0 + (a :: l).length) (a :: l) i) [mine, more (icells_more (n := 0) (a := []) (b := a :: l) rfl (by simp) ha (by simp)), nomore rfl] [bcells sl, icells (a :: l)] (plainS sl _) (by kernel_rfl)
      rw [Nat.zero_add] at h
      exact h
    | cons b r =>
      have h := at_m [] (c := rg Try.f6 8) (p := S8 N c sl ⟨op, dst, a :: l, k, lit, guard, b :: r⟩ i) .normal (S9n N c sl ⟨op, dst, a :: l, k, lit, guard, b :: r⟩ (0 + (a :: l).length + (b :: r).length) ((a :: l) ++ (b :: r)) i) [roomy 3, mine, more (icells_more (n := 0) (a := []) (b := a :: l) rfl (by simp) ha (by simp)), more (icells_more (n := 0 + (a :: l).length) (a := a :: l) (b := b :: r) (by omega) (by omega) hr (by simp))] [bcells sl, icells ((a :: l) ++ (b :: r))] (plainS sl _) (by kernel_rfl)
      rw [Nat.zero_add, ← List.length_append] at h
      exact h
def SI2 (N : Nat) (c : Cod) (sl : List Bool) (x : Ins) (l : List Int) (i k : Int) : St := ⟨sparse 92 (regS N i ++ [(5, .g (.one (.ptr 2 0))), (6, .g (.one (.sl 3 3 1 l.length))), (7, .g (num k))]), [some (false, c.c), some (false, bcells sl), some (false, x.c), some (false, icells l)], 0⟩
theorem icell_at {l : List Int} {k : Nat} (h : k < l.length) : ((icells l).drop (k * 1 + 0)).take 1 = [.v (.int .i64 l[k])] := by
  rw [Nat.mul_one, Nat.add_zero]
  unfold icells
  rw [← List.map_drop, List.drop_eq_getElem_cons h]
  rfl
theorem bcell_at {l : List Bool} {k : Nat} (h : k < l.length) : ((bcells l).drop (k * 1 + 0)).take 1 = [.v (.bool l[k])] := by
  rw [Nat.mul_one, Nat.add_zero]
  unfold bcells
  rw [← List.map_drop, List.drop_eq_getElem_cons h]
  rfl
theorem read_loop (N : Nat) (c : Cod) (sl : List Bool) (x : Ins) (l : List Int) (i : Int) (hN : sl.length = N) (hsl : (sl.length : Int) = c.slots) (hl : l.length ≤ 60) (hok : ∀ y ∈ l, badW sl y = false) : ∀ (d k : Nat), k + d = l.length → Rounds Try.prog (lp Try.f6 1) (SI2 N c sl x l i k) (.exit 2) (SI2 N c sl x l i l.length)
  | 0, k, h => by
    have : k = l.length := by omega
    subst this
    exact Rounds.out (at_m [] _ _ [ends (show decide ((l.length : Int) < (l.length : Int)) = false by simp)] [bcells sl, icells l] (plainS sl l) (by kernel_rfl)) (by simp)
  | d + 1, k, h => by
    have hk : k < l.length := by omega
    have hlt : decide ((k : Int) < (l.length : Int)) = true := by rw [decide_eq_true_iff]; omega
    have ih := read_loop N c sl x l i hN hsl hl hok d (k + 1) (by omega)
    have hb := hok _ (List.getElem_mem hk)
    have hc := icell_at hk
    generalize l[k] = y at hb hc
    unfold badW badP at hb
    simp only [Bool.or_eq_false_iff, Bool.not_eq_false', decide_eq_false_iff_not] at hb
    obtain ⟨⟨h0, h1⟩, h2⟩ := hb
    have hy : y.toNat < sl.length := by omega
    have hv : sl[y.toNat] = true := by
      rw [List.getElem?_eq_getElem hy] at h2
      exact h2
    have hd := bcell_at hy
    rw [hv] at hd
    have a0 : decide (y < 0) = false := by rw [decide_eq_false_iff_not]; omega
    have a1 : decide (y ≥ c.slots) = false := by rw [decide_eq_false_iff_not]; omega
    have sp : (k : Int) = (k : Int) ∧ k < l.length := ⟨rfl, hk⟩
    have sy : y = (y.toNat : Int) ∧ y.toNat < N := ⟨by omega, by omega⟩
    have step := at_m [] (c := lp Try.f6 1) (p := SI2 N c sl x l i k) .normal (SI2 N c sl x l i (IntKind.i64.wrap ((k : Int) + 1))) [ends hlt, spot sp, told1 hc, ends a0, spot sp, told1 hc, ends a1, spot sp, told1 hc, spot sy, told1 hd, ends (rfl : (!true) = false)] [bcells sl, icells l] (plainS sl l) (by kernel_rfl)
    rw [next k (by omega)] at step
    exact ih.step' step
def SO (N : Nat) (c : Cod) (sl : List Bool) (i : Int) : St := ⟨sparse 92 (regS N i), [some (false, c.c), some (false, bcells sl)], 0⟩
theorem step_facts {c : Cod} {sl : List Bool} {x : Ins} (h : (stepF c sl x).1 = true) : guardF sl x.guard = true ∧ (∀ y ∈ readsL x, badW sl y = false) ∧ ((cls x.op ≠ 5 ∧ badP sl.length x.dst = false ∧ (stepF c sl x).2 = sl.set x.dst.toNat true) ∨ (cls x.op = 5 ∧ (stepF c sl x).2 = sl)) := by
  have ho : stepOk c sl x = true := by
    unfold stepF at h
    split at h
    · rename_i e; exact (Bool.and_eq_true_iff.1 e).2
    · exact h
  have hs := ho
  unfold stepOk at hs
  simp only [Bool.and_eq_true, Bool.not_eq_true'] at hs
  refine ⟨hs.1.1.1.2, fun y hy => ?_, ?_⟩
  · rcases List.mem_append.1 hy with hy | hy
    · exact Bool.eq_false_iff.2 (fun e => by
        have := List.any_eq_true.2 ⟨y, hy, e⟩
        rw [hs.1.1.2] at this
        cases this)
    · exact Bool.eq_false_iff.2 (fun e => by
        have := List.any_eq_true.2 ⟨y, hy, e⟩
        rw [hs.1.2] at this
        cases this)
  · unfold stepF at h ⊢
    by_cases hc : cls x.op = 5
    · right
      have : decide (cls x.op ≠ 5) = false := by simp [hc]
      rw [this]
      exact ⟨hc, rfl⟩
    · left
      have : decide (cls x.op ≠ 5) = true := by simp [hc]
      rw [this, ho] at h ⊢
      cases hd : badP sl.length x.dst with
      | true => rw [hd] at h; simp at h
      | false => exact ⟨hc, rfl, by simp⟩
theorem reads_body (N : Nat) (c : Cod) (sl : List Bool) (i : Nat) (hi : i < c.step.length) (hb : c.step.length ≤ 60) (ha : (gx c.step i).args.length ≤ 20) (hr : (gx c.step i).resets.length ≤ 20) (hN : sl.length = N) (hsl : (sl.length : Int) = c.slots) (h : (stepF c sl (gx c.step i)).1 = true) :
    CodeCon Try.prog (lp Try.f6 0) (SO N c sl i) .normal (SO N c (stepF c sl (gx c.step i)).2 (IntKind.i64.wrap ((i : Int) + 1))) := by
  obtain ⟨hg, hy, hc⟩ := step_facts h
  have hel := ins_ad hi
  have hlt : decide ((i : Int) < (c.step.length : Int)) = true := by rw [decide_eq_true_iff]; omega
  generalize gx c.step i = x at *
  have h8 := r8 N c sl x i ha hr
  have hA := rArgs_con x.op
  have hrl : (readsL x).length ≤ 40 := by unfold readsL; rw [List.length_append]; omega
  by_cases hq : x.guard ≥ 0
  · have a0 : decide (x.guard ≥ (0 : Int)) = true := decide_eq_true hq
    have hgb : badW sl x.guard = false := by
      unfold guardF at hg
      rw [decide_eq_false (by omega)] at hg
      simpa using hg
    have hm := icells_more (n := (readsL x).length) (a := readsL x) (b := [x.guard]) rfl (by omega) (by simp) (by simp)
    have L := read_loop N c sl x (readsL x ++ [x.guard]) i hN hsl (by rw [List.length_append]; simp; omega) (fun y hy' => by
      rcases List.mem_append.1 hy' with hy' | hy'
      · exact hy y hy'
      · rw [List.mem_singleton.1 hy']; exact hgb) (readsL x ++ [x.guard]).length 0 (by omega)
    unfold SI2 at L
    rw [List.length_append] at L
    rcases hc with ⟨h5, hd, he⟩ | ⟨h5, he⟩
    · have a1 : decide ((rArgs x.op).1 ≥ (0 : Int)) = true := decide_eq_true ((least_nn _).2 h5)
      have sp := (set_put hd).1
      rw [hN] at sp
      rw [he]
      exact at_m [] _ (SO N c (sl.set x.dst.toNat true) _) [ends hlt, elem hel, goesP [bcells sl] (plain1 sl) h8 3 [], ends a0, more hm, goesP [bcells sl, icells (readsL x ++ [x.guard])] (plainS sl _) L.loop 0 [], gives hA, ends a1, spot sp, put1 (set_put hd).2] [bcells (sl.set x.dst.toNat true)] (plain1 _) (by kernel_rfl)
    · have a1 : decide ((rArgs x.op).1 ≥ (0 : Int)) = false := decide_eq_false (fun e => absurd h5 ((least_nn _).1 e))
      rw [he]
      exact at_m [] _ _ [ends hlt, elem hel, goesP [bcells sl] (plain1 sl) h8 3 [], ends a0, more hm, goesP [bcells sl, icells (readsL x ++ [x.guard])] (plainS sl _) L.loop 0 [], gives hA, ends a1] [bcells sl] (plain1 _) (by kernel_rfl)
  · have a0 : decide (x.guard ≥ (0 : Int)) = false := decide_eq_false hq
    have L := read_loop N c sl x (readsL x) i hN hsl (by omega) hy (readsL x).length 0 (by omega)
    rcases hc with ⟨h5, hd, he⟩ | ⟨h5, he⟩
    · have a1 : decide ((rArgs x.op).1 ≥ (0 : Int)) = true := decide_eq_true ((least_nn _).2 h5)
      have sp := (set_put hd).1
      rw [hN] at sp
      rw [he]
      exact at_m [] _ (SO N c (sl.set x.dst.toNat true) _) [ends hlt, elem hel, goesP [bcells sl] (plain1 sl) h8 3 [], ends a0, goesP [bcells sl, icells (readsL x)] (plainS sl _) L.loop 0 [], gives hA, ends a1, spot sp, put1 (set_put hd).2] [bcells (sl.set x.dst.toNat true)] (plain1 _) (by kernel_rfl)
    · have a1 : decide ((rArgs x.op).1 ≥ (0 : Int)) = false := decide_eq_false (fun e => absurd h5 ((least_nn _).1 e))
      rw [he]
      exact at_m [] _ _ [ends hlt, elem hel, goesP [bcells sl] (plain1 sl) h8 3 [], ends a0, goesP [bcells sl, icells (readsL x)] (plainS sl _) L.loop 0 [], gives hA, ends a1] [bcells sl] (plain1 _) (by kernel_rfl)
theorem reads_loop (N : Nat) (c : Cod) (hf : few c = true) (h0 : 0 ≤ c.slots) (hNs : N = c.slots.toNat) (ln : List Bool) : ∀ (d i : Nat) (sl : List Bool), i + d = c.step.length → sl.length = c.slots.toNat → (bodyRun (Fstep c) (c.step.drop i) (sl, ln)).isSome = true → ∃ sl', Rounds Try.prog (lp Try.f6 0) (SO N c sl i) (.exit 0) (SO N c sl' c.step.length)
  | 0, i, sl, h, hl, _ => by
    have : i = c.step.length := by omega
    subst this
    exact ⟨sl, Rounds.out (at_m [] _ _ [ends (show decide ((c.step.length : Int) < (c.step.length : Int)) = false by simp)] [bcells sl] (plain1 sl) (by kernel_rfl)) (by simp)⟩
  | d + 1, i, sl, h, hl, hb => by
    have hi : i < c.step.length := by omega
    have h60 := few_step hf
    rw [List.drop_eq_getElem_cons hi, ← gx_get hi] at hb
    unfold bodyRun at hb
    have hb : (bif (stepF c sl (gx c.step i)).1 then bodyRun (Fstep c) (c.step.drop (i + 1)) ((stepF c sl (gx c.step i)).2, ln) else none).isSome = true := hb
    cases hs : (stepF c sl (gx c.step i)).1 with
    | false => rw [hs] at hb; cases hb
    | true =>
      rw [hs] at hb
      obtain ⟨ha, hr⟩ := few_args hf _ (.inl (gx_mem hi))
      have B := reads_body N c sl i hi h60 ha hr (by omega) (by omega) hs
      rw [next i (by omega)] at B
      obtain ⟨sl', R⟩ := reads_loop N c hf h0 hNs ln d (i + 1) (stepF c sl (gx c.step i)).2 (by omega) ((stepF_len c sl _).trans hl) hb
      exact ⟨sl', R.step' B⟩
theorem safeReads_holds (c : Cod) : ConF Try.prog 6 [.agg c.c] (.g (truth true)) := by
  rcases bc (few c) with f0 | f0
  · rcases bc (rightF c) with f1 | f1
    · obtain ⟨h5, s, hs, _⟩ := right_runs f1
      have hz : 0 ≤ c.slots ∧ c.slots < 65537 := by
        simp only [List.any_cons, List.any_nil, Bool.or_false, Bool.or_eq_false_iff, badP, decide_eq_false_iff_not] at h5
        omega
      have mk : c.slots = ((List.replicate c.slots.toNat false).length : Int) ∧ c.slots = ((List.replicate c.slots.toNat false).length : Int) ∧ (List.replicate c.slots.toNat false).length ≤ 134217728 ∧ reps [.v (.bool false)] (List.replicate c.slots.toNat false).length = bcells (List.replicate c.slots.toNat false) := by
        rw [List.length_replicate]
        exact ⟨by omega, by omega, by omega, reps_b _⟩
      obtain ⟨sl', R⟩ := reads_loop (List.replicate c.slots.toNat false).length c f0 hz.1 (by simp) (List.replicate c.lines.toNat false) c.step.length 0 (List.replicate c.slots.toNat false) (by omega) (by simp) (by rw [List.drop_zero, hs]; rfl)
      generalize List.replicate c.slots.toNat false = A at *
      exact byF (.g (truth true)) Try.func6 rfl [gives (few_con c), ends (nt f0), gives (right_con c (few_small f0)), ends (nt f1), makesC A.length mk, goesP [bcells A] (plain1 A) R.loop 0 [], gives awake_con] (by kernel_rfl)
    · exact byF (.g (truth true)) Try.func6 rfl [gives (few_con c), ends (nt f0), gives (right_con c (few_small f0)), ends (nf f1), gives awake_con] (by kernel_rfl)
  · exact byF (.g (truth true)) Try.func6 rfl [gives (few_con c), ends (nf f0), ends (rfl : true = true), gives awake_con] (by kernel_rfl)
end Go.Proofs.Ytidpkomcgkcfjaa.Ev
end
