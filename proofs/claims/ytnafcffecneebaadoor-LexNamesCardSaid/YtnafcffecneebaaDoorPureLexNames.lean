/- LexNames: lex.Name and lex.Hidden answer as the document's, for every word. No condition. -/
import Derived.Test.YtnafcffecneebaaDoorB6
import Derived.Test.YtnafcffecneebaaDoorPuNames
namespace Go.Proofs.YtnafcffecneebaaDoor.Pure
open Go.RowKit Go.Proofs.YtnafcffecneebaaDoor.Print Go.Proofs.YtnafcffecneebaaDoorW.PrintWords Go.Proofs.YtnafcffecneebaaDoorW.PrintLast
theorem LexNames : fluxionlaw16_LexNames.Pure := by
  intro s hs
  refine Ev.rounds (g := fun k => fluxionlaw16_LexNames.f k s) ?_
  unfold fluxionlaw16_LexNames.f
  rw [name_eq s hs, hidden_eq s hs]
  simp only [Option.bind_some]
  refine Ev.bind (refname_ev s hs) ?_
  simp only [if_true]
  refine Ev.bind (refhidden_ev s hs) ?_
  have hk : Ev (fun k => (fluxionlaw16_known.f k).bind fun t => some t) true := Ev.bind known_ev (Ev.now _)
  cases hidB s with
  | true => simp only [if_true]; exact hk
  | false => simp only [Bool.false_eq_true, if_false]; exact hk
end Go.Proofs.YtnafcffecneebaaDoor.Pure
