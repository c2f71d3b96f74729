/- OpNames: op.Name and op.Of answer as the document's, for every op and name. No condition. -/
import Derived.Test.YtbefcdidlfkmnaaC1
import Derived.Test.YtbefcdidlfkmnaaPuOp
import Derived.Test.YtbefcdidlfkmnaaA9
import Derived.Test.YtbefcdidlfkmnaaA10
namespace Go.Proofs.Ytbefcdidlfkmnaa.Pure
open Go.RowKit Go.Proofs.Ytbefcdidlfkmnaa.Print Go.Proofs.YtbefcdidlfkmnaaW.PrintWords Go.Proofs.YtbefcdidlfkmnaaW.PrintLast
theorem name_eq (o : Int) : fluxionref11_Name.f o = some (nameR (rowOf o)) := by
  rcases rowOf_cases o with ⟨i, hi, rfl⟩ | ho
  · rw [rowOf_in i hi]
    rcases lt20 hi with rfl | rfl | rfl | rfl | rfl | rfl | rfl | rfl | rfl | rfl | rfl | rfl | rfl | rfl | rfl | rfl | rfl | rfl | rfl | rfl <;> rfl
  · rw [rowOf_out o ho]
    unfold fluxionref11_Name.f
    rcases ho with h | h
    · rw [if_pos h]; rfl
    · rw [if_neg (by omega), if_pos h]; rfl
/-- The names from place i on. -/
theorem of_loop (s : ByteArray) : ∀ (m i : Nat), 20 - i = m → i ≤ 20 → Ev (fun k => fluxionref11_Of.l0 k s ((i : Int) + 1)) (ofR ((List.range' i m).find? fun j => (nameI j).toList == s.toList))
  | 0, i, hm, hi => by
    refine Ev.step (f := fun _ => some (0, 22)) (fun k => ?_) (Ev.now _)
    simp only [fluxionref11_Of.l0]; rw [if_neg (by omega)]
  | m + 1, i, hm, hi => by
    have hlt : i < 20 := by omega
    have ih := of_loop s m (i + 1) (by omega) (by omega)
    have hn : fluxionref11_names.f.bind (fun t => some (rdOf ByteArray.empty t ((i : Int) + 1), (t.length : Int))) = some (nameI i, 21) := by
      rcases lt20 hlt with rfl | rfl | rfl | rfl | rfl | rfl | rfl | rfl | rfl | rfl | rfl | rfl | rfl | rfl | rfl | rfl | rfl | rfl | rfl | rfl <;> rfl
    obtain ⟨t, ht, h2⟩ := Option.bind_eq_some_iff.1 hn
    obtain ⟨h3, h4⟩ := Prod.mk.inj (Option.some.inj h2)
    rw [List.range'_succ, List.find?_cons]
    cases hc : ((nameI i).toList == s.toList) with
    | true =>
      refine Ev.step (f := fun _ => some ((i : Int) + 1, 0)) (fun k => ?_) ?_
      · simp only [fluxionref11_Of.l0]; rw [if_pos (by omega), ht, Option.bind_some, if_pos (by omega), if_pos (by omega), h3, if_pos (by simpa using hc)]
      · show Ev _ (opI i, 0)
        rw [opI_eq hlt]; exact Ev.now _
    | false =>
      refine Ev.step (fun k => ?_) ih
      simp only [fluxionref11_Of.l0]; rw [if_pos (by omega), ht, Option.bind_some, if_pos (by omega), if_pos (by omega), h3, if_neg (by simpa using hc)]
      congr 1
      unfold wrap64; omega
theorem of_ev (s : ByteArray) : Ev (fun k => fluxionref11_Of.f k s) (ofR (rowNamed s)) := by
  have h := of_loop s 20 0 rfl (by omega)
  unfold rowNamed firstOf
  rw [List.range_eq_range']
  exact h
theorem OpNames : fluxionlaw11_OpNames.Pure := by
  intro o s _ _
  refine Ev.rounds (g := fun k => fluxionlaw11_OpNames.f k o s) ?_
  unfold fluxionlaw11_OpNames.f op_Of.f op_Name.f fluxionlaw11_known.f
  simp only [Option.bind_some, name_eq]
  refine Ev.bind (of_ev s) ?_
  simp only [if_true]; exact Ev.now _
end Go.Proofs.Ytbefcdidlfkmnaa.Pure
