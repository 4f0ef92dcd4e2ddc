/- An argument that is a slice of tokens, read as a list. (The first theorem turns one of the guides' worked blocks to this claim.) -/
import Derived.Deep.Slices
import Derived.Deep.Fields
import Derived.ChangeSame
import Derived.ChangeArms
import Derived.Test.YtnnjanhibomijaaAx22
namespace Go.Proofs.Ytnnjanhibomijaa.TokArg
open Go.ChangeShapes Go.WideShapes Go.Deep Go.RowKit Go.Proofs.Ytnnjanhibomijaa.A Go.Proofs.YtnnjanhibomijaaW.PrintWords
theorem tokens_read {H : Type} {enc : TypeId × Value → H} {W : World} {base : Nat} {spare : Nat → Bool} {held : Bool} {a0 : Option Addr} {len0 cap0 : Nat} {d0 : DataW H} {p0 : List MemPlace}
    (h0 : DataW.Trod enc Try.prog W base spare held 23 (.slice a0 len0 cap0) d0 p0) : ∃ zs : List S31, len0 = zs.length ∧ Kd.C k31 W a0 zs.length zs ∧ zs.length ≤ cap0 := by
  obtain ⟨fuel, hf⟩ := h0
  have hone : ∀ fs, Try.prog.underlying 31 = some (.struct fs) → oneCellFields Try.prog fs = true := by
    intro fs h
    rw [Try.underlying31] at h
    cases h
    kernel_rfl
  have hsz : Try.prog.cellsOf 31 = 3 := by kernel_rfl
  rcases open_slice Try.underlying23 hf with h0 | ⟨a, len, cap, m, n, D, Pl, hcs, hb, hl, hm, hmm, hx, hi⟩
  · obtain ⟨hcs, _⟩ := h0
    simp [Value.cells] at hcs
    obtain ⟨rfl, rfl, rfl⟩ := hcs
    exact ⟨[], rfl, ⟨rfl, by simp, fun h => absurd h (by simp)⟩, Nat.le_refl _⟩
  · simp [Value.cells] at hcs
    obtain ⟨rfl, rfl, rfl⟩ := hcs
    have each : ∀ i, ∃ x : S31, i < len0 → W.cell? (a.add (i * 3 + 0)) = some (.int .i64 x.f0) ∧ W.cell? (a.add (i * 3 + 1)) = some (.string x.f1) ∧ W.cell? (a.add (i * 3 + 2)) = some (.int .i64 x.f2) := by
      intro i
      by_cases hil : i < len0
      · have him : i < m := by rw [hmm]; split <;> omega
        obtain ⟨cs', hc, ht'⟩ := hi i him
        rw [hsz] at hc
        obtain ⟨ys, n', hn', hy, hlen, hyl, hfd⟩ := DataW.trod_struct Try.underlying31 ht'
        obtain ⟨_, hcl, hat⟩ := World.cells?_some hc
        obtain ⟨o0, q0⟩ := hone_of (hone _ Try.underlying31) 0 _ rfl
        obtain ⟨o1, q1⟩ := hone_of (hone _ Try.underlying31) 1 _ rfl
        obtain ⟨o2, q2⟩ := hone_of (hone _ Try.underlying31) 2 _ rfl
        have e0 := hfd 0 _ rfl
        have e1 := hfd 1 _ rfl
        have e2 := hfd 2 _ rfl
        rw [o0, q0] at e0
        rw [o1, q1] at e1
        rw [o2, q2] at e2
        match cs', hcl with
        | [c0, c1, c2], _ =>
          have g0 := hat 0 (by omega)
          have g1 := hat 1 (by omega)
          have g2 := hat 2 (by omega)
          match ys, hyl with
          | [y0, y1, y2], _ =>
            obtain ⟨n0, r0, _, _⟩ := DataW.trod_int Try.underlying3 (show DataW.trod enc Try.prog W base spare held n' 3 [c0] = some y0 from e0)
            obtain ⟨s1, r1, _, _⟩ := DataW.trod_string Try.underlying9 (show DataW.trod enc Try.prog W base spare held n' 9 [c1] = some y1 from e1)
            obtain ⟨n2, r2, _, _⟩ := DataW.trod_int Try.underlying3 (show DataW.trod enc Try.prog W base spare held n' 3 [c2] = some y2 from e2)
            cases r0; cases r1; cases r2
            refine ⟨⟨n0, s1, n2⟩, fun _ => ⟨?_, ?_, ?_⟩⟩
            · rw [← Go.Deep.add_add]; exact g0
            · rw [← Go.Deep.add_add]; exact g1
            · rw [← Go.Deep.add_add]; exact g2
      · exact ⟨z31, fun h => absurd h hil⟩
    have hml : maxLen ≤ 9223372036854775807 := by decide
    refine ⟨(List.range len0).map fun i => (each i).choose, by simp, ⟨rfl, by simp; omega, fun _ => ⟨a, rfl, fun j p hj => ?_⟩⟩, by simpa using hl⟩
    obtain ⟨hjl, hjp⟩ := List.getElem?_eq_some_iff.1 hj
    rw [List.length_map, List.length_range] at hjl
    rw [List.getElem_map, List.getElem_range] at hjp
    obtain ⟨w0, w1, w2⟩ := (each j).choose_spec hjl
    rw [hjp] at w0 w1 w2
    refine ⟨_, rfl, k31_mk W p, fun i u hu => ?_⟩
    match i, hu with
    | 0, hu => cases hu; exact w0
    | 1, hu => cases hu; exact w1
    | 2, hu => cases hu; exact w2
end Go.Proofs.Ytnnjanhibomijaa.TokArg
