/- LexWords: the word of any number is the document's, and is read as that within the limits, and refused beyond; a reference's, too. No condition. -/
import Derived.Test.YtnafcffecneebaaDoorE1
import Derived.Test.YtnafcffecneebaaDoorPuNum
namespace Go.Proofs.YtnafcffecneebaaDoor.Pure
open Go.RowKit Go.Proofs.YtnafcffecneebaaDoor.Print Go.Proofs.YtnafcffecneebaaDoorW.PrintWords Go.Proofs.YtnafcffecneebaaDoorW.PrintLast
theorem LexWords (n : Int) (h0 : -9223372036854775808 ≤ n) (h1 : n ≤ 9223372036854775807) : ∃ k, fluxionlaw16_LexWords.f k n = some true := by
  refine Ev.rounds (g := fun k => fluxionlaw16_LexWords.f k n) ?_
  have hsz : (numB n).size ≤ 100 := by
    by_cases h : 0 ≤ n
    · obtain ⟨u, rfl⟩ : ∃ u : Nat, n = (u : Int) := ⟨n.toNat, by omega⟩
      have := D_len u (by omega)
      rw [numB_nat, bD_size]; omega
    · obtain ⟨u, rfl⟩ : ∃ u : Nat, n = -(u : Int) := ⟨(-n).toNat, by omega⟩
      have := D_len u (by omega)
      rw [numB_neg u (by omega), ByteArray.size_append, bD_size]; show 1 + _ ≤ 100; omega
  have hN : lex_Num.f n = some (numB n) := by unfold lex_Num.f; rw [if_pos ⟨h0, h1⟩]
  have hR : lex_RefText.f n = some ((⟨#[37]⟩ : ByteArray) ++ numB n) := by unfold lex_RefText.f; rw [if_pos ⟨⟨h0, h1⟩, by omega⟩]
  have hk : Ev (fun k => (fluxionlaw16_known.f k).bind fun t => some t) true := Ev.bind known_ev (Ev.now _)
  have main : ∀ a b, Ev (fun k => lex_Int.f k (numB n)) a → lex_Ref.f ((⟨#[37]⟩ : ByteArray) ++ numB n) = some b → Ev (fun k => fluxionlaw16_LexWords.j1 k n a.1 a.2 b.1 b.2 (decide (n > 2147483647) || decide (n < -2147483647))) true → Ev (fun k => fluxionlaw16_LexWords.f k n) true := fun a b hI hF hj => by
    unfold fluxionlaw16_LexWords.f
    rw [hN]
    simp only [Option.bind_some]
    refine Ev.bind (refnum_ev n h0 h1) ?_
    simp only [if_true, hR, Option.bind_some]
    rw [show ((((⟨#[37]⟩ : ByteArray) ++ numB n).toList) != (((⟨#[37]⟩ : ByteArray) ++ numB n).toList)) = false by simp]
    simp only [if_pos (show 1 + (numB n).size ≤ 9223372036854775807 by omega)]
    refine Ev.step (f := fun k => (lex_Int.f k (numB n)).bind fun t => if n > 2147483647 then fluxionlaw16_LexWords.j1 k n t.1 t.2 b.1 b.2 true else fluxionlaw16_LexWords.j1 k n t.1 t.2 b.1 b.2 (decide (n < -2147483647))) (fun k => ?_) (Ev.bind hI ?_)
    · simp only [fluxionlaw16_LexWords.j0, Bool.false_eq_true, if_false, hR, Option.bind_some, hF]
    · by_cases hb : n > 2147483647
      · simp only [if_pos hb]; rw [decide_eq_true hb, Bool.true_or] at hj; exact hj
      · simp only [if_neg hb]; rw [decide_eq_false hb, Bool.false_or] at hj; exact hj
  by_cases h : 0 ≤ n
  · obtain ⟨u, rfl⟩ : ∃ u : Nat, n = (u : Int) := ⟨n.toNat, by omega⟩
    rw [numB_nat] at main
    refine main _ _ (int_nat u (by omega)) (ref_nat u (by omega)) ?_
    unfold readN
    by_cases hu : 2147483647 < u
    · rw [if_pos hu, decide_eq_true (by omega), Bool.true_or]
      refine Ev.step (fun k => ?_) hk
      simp only [fluxionlaw16_LexWords.j1, if_true]; rw [if_pos (by omega)]
    · rw [if_neg hu, decide_eq_false (by omega), decide_eq_false (by omega)]
      refine Ev.step (f := fun k => fluxionlaw16_LexWords.j2 k (u : Int) (u : Int) 0 ((u : Int) != (u : Int))) (fun k => ?_) ?_
      · simp only [fluxionlaw16_LexWords.j1, Bool.or_self, Bool.false_eq_true, if_false, if_true]
      · rw [show ((u : Int) != (u : Int)) = false by simp]
        refine Ev.step (fun k => ?_) hk
        simp only [fluxionlaw16_LexWords.j2, Bool.false_eq_true, if_false, if_true]; rw [if_neg (by omega)]
  · obtain ⟨u, rfl⟩ : ∃ u : Nat, n = -(u : Int) := ⟨(-n).toNat, by omega⟩
    rw [numB_neg u (by omega)] at main
    refine main _ _ (int_neg u (by omega) (by omega)) (ref_neg u (by omega)) ?_
    unfold readN
    by_cases hu : 2147483647 < u
    · rw [if_pos hu, decide_eq_false (by omega), decide_eq_true (by omega), Bool.false_or]
      refine Ev.step (fun k => ?_) hk
      simp only [fluxionlaw16_LexWords.j1, if_true]
      rw [show wrap64 (-(0 : Int)) = 0 by unfold wrap64; omega, if_pos rfl, if_neg (by omega), if_pos (by omega)]
    · rw [if_neg hu, decide_eq_false (by omega), decide_eq_false (by omega)]
      have hw : wrap64 (-(u : Int)) = -(u : Int) := by unfold wrap64; omega
      refine Ev.step (f := fun k => fluxionlaw16_LexWords.j2 k (-(u : Int)) 0 19 (-(u : Int) != -(u : Int))) (fun k => ?_) ?_
      · simp only [fluxionlaw16_LexWords.j1, Bool.or_self, Bool.false_eq_true, if_false, if_true, hw]
      · rw [show (-(u : Int) != -(u : Int)) = false by simp]
        refine Ev.step (fun k => ?_) hk
        simp only [fluxionlaw16_LexWords.j2, Bool.false_eq_true, if_false, if_true]; rw [if_pos (by omega)]
end Go.Proofs.YtnafcffecneebaaDoor.Pure
