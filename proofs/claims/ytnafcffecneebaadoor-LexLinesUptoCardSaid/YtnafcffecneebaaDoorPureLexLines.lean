/- LexLines: lex.Lines answers as the document's, for texts of at most 1048576 bytes. -/
import Derived.Test.YtnafcffecneebaaDoorB7
import Derived.Test.YtnafcffecneebaaDoorPuLines
namespace Go.Proofs.YtnafcffecneebaaDoor.Pure
open Go.RowKit Go.Proofs.YtnafcffecneebaaDoor.Print Go.Proofs.YtnafcffecneebaaDoorW.PrintWords Go.Proofs.YtnafcffecneebaaDoorW.PrintLast
theorem LexLines (s : ByteArray) (hs : s.size ≤ 1048576) : ∃ k, fluxionlaw16_LexLines.f k s = some true := by
  refine Ev.rounds (g := fun k => fluxionlaw16_LexLines.f k s) ?_
  have hsz := size_len s
  have h1 := lines_ev s.size s [] (Nat.le_refl _) hs (by simp; omega)
  have h2 := reflines_loop s hs s.size 0 0 [] (by omega) (by omega) (by omega) (by simp)
  simp only [List.drop_zero, List.take_zero] at h2
  have hl := linesG_length s.data.toList [] []
  refine Ev.bind (g := fun k => lex_Lines.f k s) h1 ?_
  refine Ev.bind (g := fun k => fluxionref16_Lines.f k s) h2 ?_
  refine Ev.bind (same_ev _ (by simp at hl; omega)) ?_
  simp only [if_true]
  exact Ev.bind known_ev (Ev.now _)
end Go.Proofs.YtnafcffecneebaaDoor.Pure
