/- OpBack: an op that is in some version has a name, by which it is found again, and which no other one has; one that is in none has none. No condition. -/
import Derived.Test.YtbefcdidlfkmnaaC2
import Derived.Test.YtbefcdidlfkmnaaPuOp
namespace Go.Proofs.Ytbefcdidlfkmnaa.Pure
open Go.RowKit Go.Proofs.Ytbefcdidlfkmnaa.Print Go.Proofs.YtbefcdidlfkmnaaW.PrintWords Go.Proofs.YtbefcdidlfkmnaaW.PrintLast
theorem named_own (i : Nat) (h : i < 20) : rowNamed (nameI i) = some i := by
  rcases lt20 h with rfl | rfl | rfl | rfl | rfl | rfl | rfl | rfl | rfl | rfl | rfl | rfl | rfl | rfl | rfl | rfl | rfl | rfl | rfl | rfl <;> decide +kernel
theorem name_some (i : Nat) (h : i < 20) : (nameI i).toList ≠ [] := by
  rcases lt20 h with rfl | rfl | rfl | rfl | rfl | rfl | rfl | rfl | rfl | rfl | rfl | rfl | rfl | rfl | rfl | rfl | rfl | rfl | rfl | rfl <;> decide +kernel
theorem name_inj (i j : Nat) (hi : i < 20) (hj : j < 20) (h : (nameI j).toList = (nameI i).toList) : j = i := by
  have e : rowNamed (nameI j) = rowNamed (nameI i) := by unfold rowNamed; rw [h]
  rw [named_own i hi, named_own j hj] at e
  exact Option.some.inj e
theorem in_some (i : Nat) (h : i < 20) : (inR 1 (some i) || inR 2 (some i) || inR 3 (some i)) = true := by
  rcases lt20 h with rfl | rfl | rfl | rfl | rfl | rfl | rfl | rfl | rfl | rfl | rfl | rfl | rfl | rfl | rfl | rfl | rfl | rfl | rfl | rfl <;> decide
theorem OpBack : fluxionlaw11_OpBack.Pure := by
  intro a b _ _
  refine ⟨1, ?_⟩
  have hj : ∀ x : Bool, (x = true ↔ ∃ i : Nat, i < 20 ∧ a = (i : Int) + 1) → fluxionlaw11_OpBack.j0 1 a b x = some true := by
    intro x hx
    simp only [fluxionlaw11_OpBack.j0, op_Name.f, op_Of.f, fluxionlaw11_known.f, Option.bind_some]
    rcases rowOf_cases a with ⟨i, hi, rfl⟩ | ho
    · rw [if_pos (hx.2 ⟨i, hi, rfl⟩), rowOf_in i hi]
      have e1 : rowNamed (nameR (some i)) = some i := named_own i hi
      simp only [e1]
      show (if (0 : Int) = 0 then (if opI i = (i : Int) + 1 then (if (nameI i).toList = [] then _ else _) else _) else _) = _
      rw [if_pos rfl, if_pos (opI_eq hi), if_neg (name_some i hi)]
      by_cases hab : (i : Int) + 1 = b
      · rw [if_pos hab]
      · rw [if_neg hab, if_neg]
        show ¬ (nameR (rowOf b)).toList = (nameI i).toList
        rcases rowOf_cases b with ⟨j, hj, rfl⟩ | hb
        · rw [rowOf_in j hj]
          exact fun h => hab (by rw [name_inj i j hi hj h])
        · rw [rowOf_out b hb]
          exact fun h => name_some i hi (h.symm.trans (by decide +kernel : (nameR none).toList = []))
    · have hxf : ¬ x = true := fun h => by
        obtain ⟨i, hi, he⟩ := hx.1 h
        omega
      rw [if_neg hxf, rowOf_out a ho]
      rw [if_pos (by decide +kernel : (nameR none).toList = [])]
      rcases ho with h | h
      · rw [if_pos h]
      · rw [if_neg (by omega), if_pos h]
  unfold fluxionlaw11_OpBack.f
  simp only [op_In.f, Option.bind_some]
  rcases rowOf_cases a with ⟨i, hi, ha⟩ | ho
  · have hs := in_some i hi
    have hr : rowOf a = some i := by rw [ha]; exact rowOf_in i hi
    rw [hr]
    have hT := hj true ⟨fun _ => ⟨i, hi, ha⟩, fun _ => rfl⟩
    cases h1 : inR 1 (some i) with
    | true => rw [if_pos rfl]; exact hT
    | false =>
      rw [if_neg (by simp)]
      cases h2 : inR 2 (some i) with
      | true => rw [if_pos rfl]; exact hT
      | false =>
        rw [if_neg (by simp)]
        rw [h1, h2] at hs
        have h3 : inR 3 (some i) = true := by simpa using hs
        rw [h3]; exact hT
  · rw [rowOf_out a ho]
    have hF := hj false ⟨fun h => by simp at h, fun ⟨i, hi, he⟩ => by omega⟩
    show (if false = true then _ else (if false = true then _ else fluxionlaw11_OpBack.j0 1 a b false)) = _
    rw [if_neg (by simp), if_neg (by simp)]; exact hF
end Go.Proofs.Ytbefcdidlfkmnaa.Pure
