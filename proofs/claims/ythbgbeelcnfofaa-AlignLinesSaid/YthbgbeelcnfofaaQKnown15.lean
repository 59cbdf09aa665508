/- What must come of fixed calls. -/
import Derived.Test.YthbgbeelcnfofaaPx8
import Derived.Test.YthbgbeelcnfofaaQBase
import Derived.KernelRfl
-- use: QBase
namespace Go.Proofs.Ythbgbeelcnfofaa.Q
open Go.RowKit Go.Proofs.YthbgbeelcnfofaaW.PrintWords Go.Proofs.YthbgbeelcnfofaaW.PrintLast Go.Proofs.YthbgbeelcnfofaaW.PrintMore Go.Proofs.Ythbgbeelcnfofaa.P
theorem known_at : parallaxlaw15_known.f 60 = some true := by kernel_rfl
theorem known_ok : Ev (fun k => parallaxlaw15_known.f k) true := Ev.of parallaxlaw15_known.mono known_at
theorem known_fin : Ev (fun k => (parallaxlaw15_known.f k).bind fun t => some t) true := Ev.bind known_ok (Ev.now _)
end Go.Proofs.Ythbgbeelcnfofaa.Q
