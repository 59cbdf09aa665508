/- The fixed calls of layer 1 come out as they must. -/
import Derived.Test.YtpkagkjldfbcfaaPx3
import Derived.Test.YtpkagkjldfbcfaaQBits
import Derived.KernelRfl
-- use: QBits
namespace Go.Proofs.Ytpkagkjldfbcfaa.Q
open Go.RowKit Go.Proofs.YtpkagkjldfbcfaaW.PrintWords Go.Proofs.YtpkagkjldfbcfaaW.PrintLast Go.Proofs.YtpkagkjldfbcfaaW.PrintMore Go.Proofs.Ytpkagkjldfbcfaa.P
theorem known_at : parallaxlaw01_known.f 60 = some true := by kernel_rfl
theorem known_ok : Ev (fun k => parallaxlaw01_known.f k) true := Ev.of parallaxlaw01_known.mono known_at
theorem known_fin : Ev (fun k => (parallaxlaw01_known.f k).bind fun t => some t) true := Ev.bind known_ok (Ev.now _)
end Go.Proofs.Ytpkagkjldfbcfaa.Q
