/- LexJoins: lex.Join and lex.Text answer as the document's, for inputs of at most 1048576 values and letters. -/
import Derived.Test.YtnafcffecneebaaDoorF1
import Derived.Test.YtnafcffecneebaaDoorPuJoins
namespace Go.Proofs.YtnafcffecneebaaDoor.Pure
open Go.RowKit Go.Proofs.YtnafcffecneebaaDoor.Print Go.Proofs.YtnafcffecneebaaDoorW.PrintWords Go.Proofs.YtnafcffecneebaaDoorW.PrintLast
theorem LexJoins (l : List ByteArray) (hb : bulkL l ≤ 1048576) : ∃ k, fluxionlaw16_LexJoins.f k l = some true := by
  refine Ev.rounds (g := fun k => fluxionlaw16_LexJoins.f k l) ?_
  unfold fluxionlaw16_LexJoins.f
  by_cases h : (l.length : Int) > 100
  · simp only [if_pos h]
    exact Ev.bind known_ev (Ev.now _)
  · simp only [if_neg h]
    rw [join_some l hb, text_some l hb]
    simp only [Option.bind_some]
    refine Ev.bind (refjoin_ev l hb) ?_
    simp only [if_true]
    refine Ev.bind (reftext_ev l hb) ?_
    simp only [if_true]
    exact Ev.bind known_ev (Ev.now _)
end Go.Proofs.YtnafcffecneebaaDoor.Pure
