/- The law's 'awake' is true. -/
import Derived.Test.YtnnjanhibomijaaAx18
import Derived.KernelRfl
namespace Go.Proofs.Ytnnjanhibomijaa.LexImpl
open Go.RowKit Go.Proofs.Ytnnjanhibomijaa.A Go.Proofs.YtnnjanhibomijaaW.PrintWords
set_option maxRecDepth 100000 in
theorem awake_at : foliotlaw04_awake.f 40 = some true := by kernel_rfl
theorem awake_ev : Ev (fun k => foliotlaw04_awake.f k) true := Ev.of (fun k => foliotlaw04_awake.mono k) awake_at
end Go.Proofs.Ytnnjanhibomijaa.LexImpl
