/- The closed tests of chapter 06's statements come out true: by evaluation. No condition. -/
import Derived.Test.YtfkohjngogjmkaaL1
namespace Go.Proofs.Ytfkohjngogjmkaa.Print
open Go.RowKit Go.Proofs.YtfkohjngogjmkaaW.PrintWords Go.Proofs.YtfkohjngogjmkaaW.PrintLast
theorem known_ev : Ev (fun k => fluxionlaw06_known.f k) true := Ev.of (fun k => fluxionlaw06_known.mono k) (k := 40) (by decide +kernel)
end Go.Proofs.Ytfkohjngogjmkaa.Print
