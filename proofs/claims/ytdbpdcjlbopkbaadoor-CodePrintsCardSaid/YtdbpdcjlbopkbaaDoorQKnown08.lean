/- What must come of fixed calls. -/
import Derived.Test.YtdbpdcjlbopkbaaDoorPx10
import Derived.Test.YtdbpdcjlbopkbaaDoorQBase
import Derived.KernelRfl
-- use: QBase
namespace Go.Proofs.YtdbpdcjlbopkbaaDoor.Q
open Go.RowKit Go.Proofs.YtdbpdcjlbopkbaaDoorW.PrintWords Go.Proofs.YtdbpdcjlbopkbaaDoorW.PrintLast Go.Proofs.YtdbpdcjlbopkbaaDoorW.PrintMore Go.Proofs.YtdbpdcjlbopkbaaDoor.P
theorem known_ok : Ev (fun k => parallaxlaw08_known.f k) true := Ev.of parallaxlaw08_known.mono parallaxlaw08_known.at_
theorem known_fin : Ev (fun k => (parallaxlaw08_known.f k).bind fun t => some t) true := Ev.bind known_ok (Ev.now _)
end Go.Proofs.YtdbpdcjlbopkbaaDoor.Q
