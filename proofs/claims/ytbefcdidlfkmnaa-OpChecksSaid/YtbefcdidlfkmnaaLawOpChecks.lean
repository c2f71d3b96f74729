/- OpChecks: op.Check answers as the document's Check, for every version and node. No condition. -/
import Derived.Test.YtbefcdidlfkmnaaRows
import Derived.Test.YtbefcdidlfkmnaaC4
import Derived.Test.YtbefcdidlfkmnaaHRow
import Derived.Test.YtbefcdidlfkmnaaPuAttr
import Derived.WalkKit
import Derived.ProofKit
import Derived.OpenShut
import Derived.ShutString
import Derived.ChangeOld
import Derived.Below
import Derived.SizedLaws
namespace Go.Proofs.Ytbefcdidlfkmnaa.Pure
open Go.RowKit Go.Proofs.Ytbefcdidlfkmnaa.Print Go.Proofs.YtbefcdidlfkmnaaW.PrintWords Go.Proofs.YtbefcdidlfkmnaaW.PrintLast
theorem OpChecks (v o : Int) (a l : List Int) (ha : a.length * 8 ≤ 140737488351232) (hl : l.length * 8 ≤ 140737488351232) : ∃ k, fluxionlaw11_OpChecks.f k v o a l = some true := by
  refine Ev.rounds (g := fun k => fluxionlaw11_OpChecks.f k v o a l) ?_
  have ho : fluxionlaw11_own.f o a l = some (o, a, l) := by
    unfold fluxionlaw11_own.f
    rw [if_pos (by simp; omega), if_pos (by simp; omega)]
    simp
  obtain ⟨r, h1, h2⟩ := check_ev v o a l (by omega)
  unfold fluxionlaw11_OpChecks.f fluxionlaw11_known.f
  rw [ho]
  simp only [Option.bind_some]
  refine Ev.bind h1 ?_
  refine Ev.bind h2 ?_
  simp only [if_true]; exact Ev.now _
end Go.Proofs.Ytbefcdidlfkmnaa.Pure
namespace Go.Proofs.Ytbefcdidlfkmnaa.opChecks
open Go.ChangeShapes Go.WideShapes Go.ChangeAt Go.RowKit
open Go.ChangeMaps (open_string shut_string)
set_option linter.unusedVariables false
theorem own : ownKnob Try.prog.godebug = none := by kernel_rfl
theorem laidOut : laidOutB Try.prog = true := by kernel_rfl
set_option maxRecDepth 100000 in
theorem lifted (os : Os) (started : os.Started) (H : Type) (enc : TypeId × Value → H) :
    ReturnsInHanded {} Try.checked os 3 .any (Rows.opChecksSpec.pre6 enc Try.prog Try.f3 Rows.opChecksRow.domain false) (Rows.opChecksSpec.post enc Try.prog Try.f3 false true false false) := by
  refine returnsInHanded_of_change_sized (C := Try.checked) own started (by kernel_rfl) Try.func3
    (ChangeSpec.witness6 (enc := enc) (C := Try.checked) false ⟨#[], #[.int .i64 0, .agg #[.int .i64 0, .slice none 0 0, .slice none 0 0]], []⟩ 8 (by kernel_rfl) (by kernel_rfl) (by kernel_rfl) (by kernel_rfl)) ?_
  intro W base args ds gs before hval0 hW hcnd hsz0 _
  have hsz : (DataW.weightsEach Try.prog (Try.f3.params.toList ++ Rows.opChecksSpec.plain.varTypes Try.prog) (ds ++ gs)).all (· ≤ reachBytes) = true := hsz0
  have hval : ∀ (j : Nat) t v, Try.f3.params[j]? = some t → args[j]? = some v → Value.okWide Try.prog W .any base t v := hval0
  have hW' := hW
  obtain ⟨p, q, hA0, hV, rfl, hfz, hnd⟩ := hW
  have hA : DataW.TrodAll enc Try.prog W 0 (fun _ => true) true Try.f3.params.toList args.toList ds p := hA0
  rw [Try.params3] at hA hval hsz
  obtain ⟨v0, vs0, d0, ds0, p0, q0, hargs, rfl, rfl, h0, r0⟩ := trodAll_cons hA
  obtain ⟨v1, vs1, d1, ds1, p1, q1, rfl, rfl, rfl, h1, r1⟩ := trodAll_cons r0
  obtain ⟨rfl, rfl, rfl⟩ := trodAll_nil r1
  obtain rfl : args = #[v0, v1] := by cases args; simp_all
  obtain ⟨rfl, rfl⟩ := trodVars_none hV
  obtain ⟨a0, rfl, rfl, rfl, w0⟩ := open_int Try.underlying3 (hval 0 3 v0 rfl rfl) h0
  have k1 := h1
  have lt1 : ∀ x ∈ p1, x.block < W.heap.size := by obtain ⟨m, hm⟩ := k1; exact DataW.trod_lt m _ _ _ hm
  obtain ⟨o, u1, u2, A1, c1, l1, A2, c2, l2, rfl, hwo, R1, R2⟩ := Print.open_node hsz (j := 1) rfl rfl (hval 1 25 v1 rfl rfl) h1
  obtain rfl := R1.eq
  obtain rfl := R2.eq
  clear hA0 hval0 hsz0 hsz
  obtain ⟨k, hk⟩ := Pure.OpChecks a0 o l1 l2 R1.size R2.size
  refine (Print.fluxionlaw11_OpChecks.calls k a0 o A1 c1 l1 A2 c2 l2 true W R1.cells R1.cap R2.cells R2.cap hk).mono fun e W' ⟨he, bel⟩ => ?_
  subst he
  exact ⟨_, rfl, _, _, _, [], _, [], hW', trodAll_mk1 (shut_bool Try.underlying4 _), (trodAll_cons_mk (shut_int Try.underlying3 w0) (trodAll_cons_mk (Below.trod laidOut (by kernel_rfl) (of_decide_eq_true (by kernel_rfl)) k1 bel lt1) trodAll_mk0)), rfl, bel.frame _, fun h => by cases h⟩
theorem over : Rows.opChecksRow.holds Try.pinned (OpenSpec.ofChange Rows.opChecksSpec) :=
  OpenClaim.holds_of_wide 3 Try.f3 rfl rfl rfl rfl rfl rfl rfl ⟨rfl, rfl, rfl, rfl, rfl⟩ rfl rfl rfl rfl rfl (by kernel_rfl) Try.func3 (by kernel_rfl)
    (of_decide_eq_true (by kernel_rfl)) (by unfold Func.isWrapper; first | (rw [if_pos (by decide +kernel)]; kernel_rfl) | (rw [if_neg (by decide +kernel)]; exact ⟨rfl, rfl⟩))
    (fun os started H enc _ => lifted os started H enc)
theorem proved : Rows.OpChecksSaid := over
#print axioms proved
end Go.Proofs.Ytbefcdidlfkmnaa.opChecks
namespace Go.Proofs.Ytbefcdidlfkmnaa
/-- The row, under a short name, for the claim. -/
theorem opChecks_holds : Rows.OpChecksSaid := opChecks.proved
end Go.Proofs.Ytbefcdidlfkmnaa
