/- OpExplicit: op.Explicit answers as the document's Explicit, for every version, node and ranks, and what it hands out is not what was handed in. No condition. -/
import Derived.Test.YtbefcdidlfkmnaaRows
import Derived.Test.YtbefcdidlfkmnaaD1
import Derived.Test.YtbefcdidlfkmnaaHRow
import Derived.Test.YtbefcdidlfkmnaaPuAll
import Derived.WalkKit
import Derived.ProofKit
import Derived.OpenShut
import Derived.ShutString
import Derived.ChangeOld
import Derived.Below
import Derived.SizedLaws
namespace Go.Proofs.Ytbefcdidlfkmnaa.Pure
open Go.RowKit Go.Proofs.Ytbefcdidlfkmnaa.Print Go.Proofs.YtbefcdidlfkmnaaW.PrintWords Go.Proofs.YtbefcdidlfkmnaaW.PrintLast
theorem bump_ev (o : Int) (a l : List Int) (hl : l.length ≤ 4611686018427387904) : ∀ (m : Nat) (i : Nat) (x : List Int), x.length ≤ 4611686018427387904 → x.length - i = m → i ≤ x.length → Ev (fun k => fluxionlaw11_OpExplicit.l0 k x (i : Int) o a l o a l) true
  | 0, i, x, hx, hm, hi => by
    refine Ev.step (f := fun k => (fluxionref07_SameShape.f k l l).bind fun t => if t = true then (fluxionlaw11_known.f.bind fun t => some t) else some false) (fun k => ?_) (Ev.bind (sameS_ev l hl) ?_)
    · simp only [fluxionlaw11_OpExplicit.l0]; rw [if_neg (by omega)]
    · unfold fluxionlaw11_known.f; exact Ev.now _
  | m + 1, i, x, hx, hm, hi => by
    have ih := bump_ev o a l hl m (i + 1) (x.set (i : Int).toNat (wrap64 (rd x (i : Int) + 1))) (by rw [List.length_set]; exact hx) (by rw [List.length_set]; omega) (by rw [List.length_set]; omega)
    refine Ev.step (fun k => ?_) ih
    simp only [fluxionlaw11_OpExplicit.l0]; rw [if_pos (by omega), if_pos (by omega), wrap_id (x := (i : Int) + 1) (by omega) (by omega)]; rfl
theorem OpExplicit (v o : Int) (a l rs : List Int) (ha : a.length * 8 ≤ 140737488351232) (hl : l.length * 8 ≤ 140737488351232) (hr : rs.length * 8 ≤ 140737488351232) : ∃ k, fluxionlaw11_OpExplicit.f k v o a l rs = some true := by
  refine Ev.rounds (g := fun k => fluxionlaw11_OpExplicit.f k v o a l rs) ?_
  have ho : fluxionlaw11_own.f o a l = some (o, a, l) := by
    unfold fluxionlaw11_own.f
    rw [if_pos (by simp; omega), if_pos (by simp; omega)]
    simp
  obtain ⟨r, hlen, h1, h2⟩ := explicit_ev v o a l rs (by omega) _ (rank_eq rs)
  unfold fluxionlaw11_OpExplicit.f
  rw [ho]
  simp only [Option.bind_some, List.nil_append]
  simp only [if_pos (show ([] : List Int).length + rs.length < 17592186044416 by simp; omega)]
  refine Ev.bind h1 ?_
  have key : Ev (fun k => fluxionlaw11_OpExplicit.j0 k v r (if (rs.length : Int) > 0 then rd rs 0 else 0) o a l o a l) true := by
    refine Ev.step (fun k => by simp only [fluxionlaw11_OpExplicit.j0]; rfl) (Ev.bind h2 (Ev.bind (sameS_ev r (by omega)) ?_))
    simp only [if_true]
    exact bump_ev o a l (by omega) r.length 0 r (by omega) (by omega) (by omega)
  refine Ev.congr (fun k => ?_) key
  by_cases h : (rs.length : Int) > 0
  · rw [if_pos h, if_pos (by omega), if_pos h]
  · rw [if_neg h, if_neg h]
end Go.Proofs.Ytbefcdidlfkmnaa.Pure
namespace Go.Proofs.Ytbefcdidlfkmnaa.opExplicit
open Go.ChangeShapes Go.WideShapes Go.ChangeAt Go.RowKit
open Go.ChangeMaps (open_string shut_string)
set_option linter.unusedVariables false
theorem own : ownKnob Try.prog.godebug = none := by kernel_rfl
theorem laidOut : laidOutB Try.prog = true := by kernel_rfl
set_option maxRecDepth 100000 in
theorem lifted (os : Os) (started : os.Started) (H : Type) (enc : TypeId × Value → H) :
    ReturnsInHanded {} Try.checked os 4 .any (Rows.opExplicitSpec.pre6 enc Try.prog Try.f4 Rows.opExplicitRow.domain false) (Rows.opExplicitSpec.post enc Try.prog Try.f4 false true false false) := by
  refine returnsInHanded_of_change_sized (C := Try.checked) own started (by kernel_rfl) Try.func4
    (ChangeSpec.witness6 (enc := enc) (C := Try.checked) false ⟨#[], #[.int .i64 0, .agg #[.int .i64 0, .slice none 0 0, .slice none 0 0], .slice none 0 0], []⟩ 8 (by kernel_rfl) (by kernel_rfl) (by kernel_rfl) (by kernel_rfl)) ?_
  intro W base args ds gs before hval0 hW hcnd hsz0 _
  have hsz : (DataW.weightsEach Try.prog (Try.f4.params.toList ++ Rows.opExplicitSpec.plain.varTypes Try.prog) (ds ++ gs)).all (· ≤ reachBytes) = true := hsz0
  have hval : ∀ (j : Nat) t v, Try.f4.params[j]? = some t → args[j]? = some v → Value.okWide Try.prog W .any base t v := hval0
  have hW' := hW
  obtain ⟨p, q, hA0, hV, rfl, hfz, hnd⟩ := hW
  have hA : DataW.TrodAll enc Try.prog W 0 (fun _ => true) true Try.f4.params.toList args.toList ds p := hA0
  rw [Try.params4] at hA hval hsz
  obtain ⟨v0, vs0, d0, ds0, p0, q0, hargs, rfl, rfl, h0, r0⟩ := trodAll_cons hA
  obtain ⟨v1, vs1, d1, ds1, p1, q1, rfl, rfl, rfl, h1, r1⟩ := trodAll_cons r0
  obtain ⟨v2, vs2, d2, ds2, p2, q2, rfl, rfl, rfl, h2, r2⟩ := trodAll_cons r1
  obtain ⟨rfl, rfl, rfl⟩ := trodAll_nil r2
  obtain rfl : args = #[v0, v1, v2] := by cases args; simp_all
  obtain ⟨rfl, rfl⟩ := trodVars_none hV
  obtain ⟨a0, rfl, rfl, rfl, w0⟩ := open_int Try.underlying3 (hval 0 3 v0 rfl rfl) h0
  have k1 := h1
  have lt1 : ∀ x ∈ p1, x.block < W.heap.size := by obtain ⟨m, hm⟩ := k1; exact DataW.trod_lt m _ _ _ hm
  obtain ⟨o, u1, u2, A1, c1, l1, A2, c2, l2, rfl, hwo, R1, R2⟩ := Print.open_node hsz (j := 1) rfl rfl (hval 1 25 v1 rfl rfl) h1
  have k2 := h2
  have lt2 : ∀ x ∈ p2, x.block < W.heap.size := by obtain ⟨m, hm⟩ := k2; exact DataW.trod_lt m _ _ _ hm
  obtain ⟨A3, c3, l3, R3⟩ := Print.open_row hsz (j := 2) rfl rfl (okWide_slice Try.underlying23 (hval 2 23 v2 rfl rfl)) h2
  obtain rfl := R3.eq
  obtain rfl := R1.eq
  obtain rfl := R2.eq
  clear hA0 hval0 hsz0 hsz
  obtain ⟨k, hk⟩ := Pure.OpExplicit a0 o l1 l2 l3 R1.size R2.size R3.size
  refine (Print.fluxionlaw11_OpExplicit.calls k a0 o A1 c1 l1 A2 c2 l2 A3 c3 l3 true W R1.cells R1.cap R2.cells R2.cap R3.cells R3.cap hk).mono fun e W' ⟨he, bel⟩ => ?_
  subst he
  exact ⟨_, rfl, _, _, _, [], _, [], hW', trodAll_mk1 (shut_bool Try.underlying4 _), (trodAll_cons_mk (shut_int Try.underlying3 w0) (trodAll_cons_mk (Below.trod laidOut (by kernel_rfl) (of_decide_eq_true (by kernel_rfl)) k1 bel lt1) (trodAll_cons_mk (Below.trod laidOut (by kernel_rfl) (of_decide_eq_true (by kernel_rfl)) k2 bel lt2) trodAll_mk0))), rfl, bel.frame _, fun h => by cases h⟩
theorem over : Rows.opExplicitRow.holds Try.pinned (OpenSpec.ofChange Rows.opExplicitSpec) :=
  OpenClaim.holds_of_wide 4 Try.f4 rfl rfl rfl rfl rfl rfl rfl ⟨rfl, rfl, rfl, rfl, rfl⟩ rfl rfl rfl rfl rfl (by kernel_rfl) Try.func4 (by kernel_rfl)
    (of_decide_eq_true (by kernel_rfl)) (by unfold Func.isWrapper; first | (rw [if_pos (by decide +kernel)]; kernel_rfl) | (rw [if_neg (by decide +kernel)]; exact ⟨rfl, rfl⟩))
    (fun os started H enc _ => lifted os started H enc)
theorem proved : Rows.OpExplicitSaid := over
#print axioms proved
end Go.Proofs.Ytbefcdidlfkmnaa.opExplicit
namespace Go.Proofs.Ytbefcdidlfkmnaa
/-- The row, under a short name, for the claim. -/
theorem opExplicit_holds : Rows.OpExplicitSaid := opExplicit.proved
end Go.Proofs.Ytbefcdidlfkmnaa
