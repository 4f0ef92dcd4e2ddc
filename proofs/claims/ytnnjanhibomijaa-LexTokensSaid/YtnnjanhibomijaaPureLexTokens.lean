/- For every row of bytes the program's lexer and the reference's tell the same tokens, or the same fault at the same place (sources of at most 5000 bytes; longer ones are let go by the statement itself). -/
import Derived.Test.YtnnjanhibomijaaAx19
import Derived.Test.YtnnjanhibomijaaLexRef
import Derived.Test.YtnnjanhibomijaaLexAwake
namespace Go.Proofs.Ytnnjanhibomijaa.Pure
open Go.RowKit Go.Proofs.Ytnnjanhibomijaa.A Go.Proofs.YtnnjanhibomijaaW.PrintWords Go.Proofs.Ytnnjanhibomijaa.LexImpl

theorem byt_of {l : List Int} (h : ∀ x ∈ l, (Lit.int .u8 x).wf = true) : Byt l := by
  intro x hx
  have h2 : (decide (IntKind.u8.min ≤ x) && decide (x ≤ IntKind.u8.max)) = true := h x hx
  rw [show IntKind.u8.min = 0 from rfl, show IntKind.u8.max = 255 from rfl] at h2
  simpa using h2
theorem LexTokens : foliotlaw04_LexTokens.Pure := by
  intro l0 _ hl hb
  have hs := byt_of hb
  refine Ev.rounds (g := fun k => foliotlaw04_LexTokens.f k l0) ?_
  unfold foliotlaw04_LexTokens.f
  by_cases h5 : (l0.length : Int) > 5000
  · simp only [if_pos h5]; exact Ev.now _
  simp only [if_neg h5, Option.bind_some, List.length_nil, List.nil_append]
  simp only [if_pos (show 0 + l0.length < 140737488355328 from by omega)]
  refine Ev.bind (tokens_ev hs) ?_
  refine Ev.bind (ref_ev hs) ?_
  refine Ev.bind (same_self (by have := tokensSay_len l0; omega)) ?_
  simp only [if_true]
  exact Ev.bind awake_ev (Ev.now _)
end Go.Proofs.Ytnnjanhibomijaa.Pure
