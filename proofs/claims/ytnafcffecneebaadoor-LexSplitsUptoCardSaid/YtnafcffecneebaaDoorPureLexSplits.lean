/- LexSplits: lex.Split answers as the document's, for lines of at most 1048576 bytes. -/
import Derived.Test.YtnafcffecneebaaDoorB7
import Derived.Test.YtnafcffecneebaaDoorPuSplits
namespace Go.Proofs.YtnafcffecneebaaDoor.Pure
open Go.RowKit Go.Proofs.YtnafcffecneebaaDoor.Print Go.Proofs.YtnafcffecneebaaDoorW.PrintWords Go.Proofs.YtnafcffecneebaaDoorW.PrintLast
theorem LexSplits (s : ByteArray) (hs : s.size ≤ 1048576) : ∃ k, fluxionlaw16_LexSplits.f k s = some true := by
  refine Ev.rounds (g := fun k => fluxionlaw16_LexSplits.f k s) ?_
  have hsz := size_len s
  have key : ∀ r : List ByteArray × Int, r.1.length ≤ 4611686018427387904 → Ev (fun k => lex_Split.f k s) r → Ev (fun k => fluxionref16_Split.f k s) r → Ev (fun k => fluxionlaw16_LexSplits.f k s) true := fun r hr h1 h2 => by
    refine Ev.bind h1 (Ev.bind h2 (Ev.bind (same_ev _ hr) ?_))
    simp only [if_true]
    exact Ev.bind known_ev (Ev.now _)
  by_cases he : s.toList = []
  · refine key ([], 0) (by simp) (Ev.congr (f := fun _ => some ([], 0)) (fun k => ?_) (Ev.now _)) (Ev.congr (f := fun _ => some ([], 0)) (fun k => ?_) (Ev.now _))
    · unfold lex_Split.f; rw [if_pos he]
    · unfold fluxionref16_Split.f; rw [if_pos he]
  · have hw := wordsOf_eq s.size s (Nat.le_refl _)
    have hl := splitG_length s.data.toList []
    have h1 := splits_loop (wordsOf s) (by rw [hw]; omega) (wordsOf s).length 0 (by omega) (by omega)
    have h2 := refsplit_loop s hs s.size 0 0 [] (by omega) (by omega) (by omega) (by simp) (by simp)
    simp only [List.drop_zero, List.take_zero, List.nil_append] at h1 h2
    rw [hw] at h1
    refine key _ ?_ (Ev.congr (fun k => ?_) h1) (Ev.congr (fun k => ?_) h2)
    · split
      · simp only; omega
      · simp
    · unfold lex_Split.f
      have hS : strings_Split.f s ⟨#[32]⟩ = some (wordsOf s) := by unfold strings_Split.f; rw [if_pos ⟨rfl, by omega⟩]
      rw [if_neg he, hS, Option.bind_some, hw]; rfl
    · unfold fluxionref16_Split.f; rw [if_neg he]; rfl
end Go.Proofs.YtnafcffecneebaaDoor.Pure
