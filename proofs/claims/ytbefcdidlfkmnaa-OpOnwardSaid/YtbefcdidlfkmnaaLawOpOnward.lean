/- OpOnward: a node that may be in a version may be, with its explicit attributes, in each later one that its op is in, and they are explicit there; for every version, node and rank. No condition. -/
import Derived.Test.YtbefcdidlfkmnaaRows
import Derived.Test.YtbefcdidlfkmnaaD2
import Derived.Test.YtbefcdidlfkmnaaHRow
import Derived.Test.YtbefcdidlfkmnaaPuOnward
import Derived.WalkKit
import Derived.ProofKit
import Derived.OpenShut
import Derived.ShutString
import Derived.ChangeOld
import Derived.Below
import Derived.SizedLaws
namespace Go.Proofs.Ytbefcdidlfkmnaa.Pure
open Go.RowKit Go.Proofs.Ytbefcdidlfkmnaa.Print Go.Proofs.YtbefcdidlfkmnaaW.PrintWords Go.Proofs.YtbefcdidlfkmnaaW.PrintLast
theorem onward_loop {k : Nat} {v o : Int} {a l : List Int} {i : Nat} (x : Int) (h : CheckOk k v o a l i) (hl : l.length < 17592186044416) : ∀ (m : Nat) (v' : Int), (4 - v').toNat = m → 1 ≤ v' →
    Ev (fun k => fluxionlaw11_OpOnward.l0 k x v' o a l o a (onwardE v o l x i)) true
  | 0, v', hm, hv => by
    refine Ev.step (f := fun _ => some true) (fun k => ?_) (Ev.now _)
    simp only [fluxionlaw11_OpOnward.l0]; rw [if_neg (by omega)]; rfl
  | m + 1, v', hm, hv => by
    have ih := onward_loop x h hl m (v' + 1) (by omega) (by omega)
    have hw : wrap64 (v' + 1) = v' + 1 := wrap_id (by omega) (by omega)
    have hel : (onwardE v o l x i).length < 17592186044416 := by
      unfold onwardE; split
      · have := explS_length o (rankS [x]) (rankS_le [x]).2; omega
      · exact hl
    have hin : op_In.f o v' = some (inR v' (some i)) := by unfold op_In.f; rw [h.2.1]
    by_cases hb : firstI i ≤ v' ∧ v' ≤ lastI i
    · have hti : inR v' (some i) = true := by
        show (decide (firstI i ≤ v') && decide (v' ≤ lastI i)) = true
        rw [decide_eq_true hb.1, decide_eq_true hb.2]; rfl
      have hck := onward_check x v' h (by omega) hb
      refine Ev.step (f := fun k => (op_Check.f k v' o a (onwardE v o l x i)).bind fun t => if t = 0 then (if ((onwardE v o l x i).length : Int) > 0 then ((op_Explicit.f k v' o a (onwardE v o l x i) [x]).bind fun t => (fluxionref07_SameShape.f k t (onwardE v o l x i)).bind fun t => if t = true then fluxionlaw11_OpOnward.l0 k x (wrap64 (v' + 1)) o a l o a (onwardE v o l x i) else some false) else fluxionlaw11_OpOnward.l0 k x (wrap64 (v' + 1)) o a l o a (onwardE v o l x i)) else some false) (fun k => ?_) (Ev.bind hck ?_)
      · simp only [fluxionlaw11_OpOnward.l0]; rw [if_pos (by omega), hin, hti]; rfl
      · simp only [if_true]
        rw [hw]
        by_cases h0 : ((onwardE v o l x i).length : Int) > 0
        · simp only [if_pos h0]
          have hex : Ev (fun k => op_Explicit.f k v' o a (onwardE v o l x i) [x]) (onwardE v o l x i) := by
            unfold op_Explicit.f
            refine Ev.bind hck ?_
            rw [if_pos hel, if_neg (fun c => by have := c.2.1; omega)]; exact Ev.now _
          refine Ev.bind hex (Ev.bind (sameS_ev _ (by omega)) ?_)
          simp only [if_true]; exact ih
        · simp only [if_neg h0]; exact ih
    · have hti : inR v' (some i) = false := by
        show (decide (firstI i ≤ v') && decide (v' ≤ lastI i)) = false
        by_cases h1 : firstI i ≤ v'
        · rw [decide_eq_false (fun c => hb ⟨h1, c⟩), Bool.and_false]
        · rw [decide_eq_false h1, Bool.false_and]
      refine Ev.step (fun k => ?_) ih
      simp only [fluxionlaw11_OpOnward.l0]; rw [if_pos (by omega), hin, hti, hw]; rfl
theorem OpOnward (v o : Int) (a l : List Int) (x : Int) (ha : a.length * 8 ≤ 140737488351232) (hl : l.length * 8 ≤ 140737488351232) : ∃ k, fluxionlaw11_OpOnward.f k v o a l x = some true := by
  refine Ev.rounds (g := fun k => fluxionlaw11_OpOnward.f k v o a l x) ?_
  have ho : fluxionlaw11_own.f o a l = some (o, a, l) := by
    unfold fluxionlaw11_own.f
    rw [if_pos (by simp; omega), if_pos (by simp; omega)]
    simp
  obtain ⟨c, h1, h2⟩ := check_ev v o a l (by omega)
  have jt : Ev (fun k => fluxionlaw11_OpOnward.j0 k v x true o a l) true := by
    refine Ev.step (fun k => by simp only [fluxionlaw11_OpOnward.j0, if_true]; rfl) (Ev.bind h1 (Ev.bind h2 ?_))
    simp only [if_true]; exact Ev.now _
  by_cases hx : x < 0
  · exact Ev.congr (fun k => by unfold fluxionlaw11_OpOnward.f; rw [if_pos hx]) jt
  by_cases hx4 : x > 4
  · exact Ev.congr (fun k => by unfold fluxionlaw11_OpOnward.f; rw [if_neg hx, if_pos hx4]) jt
  refine Ev.congr (fun k => by unfold fluxionlaw11_OpOnward.f; rw [if_neg hx, if_neg hx4]) (Ev.bind h1 ?_)
  by_cases hc : c = 0
  · subst hc
    simp only [if_true]
    refine Ev.bind h2 ?_
    obtain ⟨k0, hk0⟩ := h1.rounds
    obtain ⟨i, hok⟩ := check_ok hk0
    have hex : Ev (fun k => op_Explicit.f k v o a l [x]) (onwardE v o l x i) := by
      unfold op_Explicit.f
      refine Ev.bind h1 ?_
      have e : (if (0 : Int) = 0 ∧ l.length = 0 ∧ v ≤ noneR (rowOf o) then some (explS o (rankS [x])) else some l) = some (onwardE v o l x i) := by
        rw [hok.2.1]; unfold onwardE
        by_cases hq : l.length = 0 ∧ v ≤ noneI i
        · rw [if_pos ⟨rfl, hq⟩, if_pos hq]
        · rw [if_neg (fun z => hq z.2), if_neg hq]
      rw [if_pos (by omega), e]; exact Ev.now _
    refine Ev.step (f := fun k => (op_Explicit.f k v o a l [x]).bind fun t => fluxionlaw11_OpOnward.l0 k x v o a l o a t) (fun k => ?_) (Ev.bind hex ?_)
    · simp only [fluxionlaw11_OpOnward.j0, show ((0 : Int) != 0) = false from rfl, Bool.false_eq_true, if_false]; rw [ho]; rfl
    · exact onward_loop x hok (by omega) (4 - v).toNat v rfl hok.1.1
  · simp only [if_neg hc]; exact jt
end Go.Proofs.Ytbefcdidlfkmnaa.Pure
namespace Go.Proofs.Ytbefcdidlfkmnaa.opOnward
open Go.ChangeShapes Go.WideShapes Go.ChangeAt Go.RowKit
open Go.ChangeMaps (open_string shut_string)
set_option linter.unusedVariables false
theorem own : ownKnob Try.prog.godebug = none := by kernel_rfl
theorem laidOut : laidOutB Try.prog = true := by kernel_rfl
set_option maxRecDepth 100000 in
theorem lifted (os : Os) (started : os.Started) (H : Type) (enc : TypeId × Value → H) :
    ReturnsInHanded {} Try.checked os 5 .any (Rows.opOnwardSpec.pre6 enc Try.prog Try.f5 Rows.opOnwardRow.domain false) (Rows.opOnwardSpec.post enc Try.prog Try.f5 false true false false) := by
  refine returnsInHanded_of_change_sized (C := Try.checked) own started (by kernel_rfl) Try.func5
    (ChangeSpec.witness6 (enc := enc) (C := Try.checked) false ⟨#[], #[.int .i64 0, .agg #[.int .i64 0, .slice none 0 0, .slice none 0 0], .int .i64 0], []⟩ 8 (by kernel_rfl) (by kernel_rfl) (by kernel_rfl) (by kernel_rfl)) ?_
  intro W base args ds gs before hval0 hW hcnd hsz0 _
  have hsz : (DataW.weightsEach Try.prog (Try.f5.params.toList ++ Rows.opOnwardSpec.plain.varTypes Try.prog) (ds ++ gs)).all (· ≤ reachBytes) = true := hsz0
  have hval : ∀ (j : Nat) t v, Try.f5.params[j]? = some t → args[j]? = some v → Value.okWide Try.prog W .any base t v := hval0
  have hW' := hW
  obtain ⟨p, q, hA0, hV, rfl, hfz, hnd⟩ := hW
  have hA : DataW.TrodAll enc Try.prog W 0 (fun _ => true) true Try.f5.params.toList args.toList ds p := hA0
  rw [Try.params5] at hA hval hsz
  obtain ⟨v0, vs0, d0, ds0, p0, q0, hargs, rfl, rfl, h0, r0⟩ := trodAll_cons hA
  obtain ⟨v1, vs1, d1, ds1, p1, q1, rfl, rfl, rfl, h1, r1⟩ := trodAll_cons r0
  obtain ⟨v2, vs2, d2, ds2, p2, q2, rfl, rfl, rfl, h2, r2⟩ := trodAll_cons r1
  obtain ⟨rfl, rfl, rfl⟩ := trodAll_nil r2
  obtain rfl : args = #[v0, v1, v2] := by cases args; simp_all
  obtain ⟨rfl, rfl⟩ := trodVars_none hV
  obtain ⟨a0, rfl, rfl, rfl, w0⟩ := open_int Try.underlying3 (hval 0 3 v0 rfl rfl) h0
  obtain ⟨a2, rfl, rfl, rfl, w2⟩ := open_int Try.underlying3 (hval 2 3 v2 rfl rfl) h2
  have k1 := h1
  have lt1 : ∀ x ∈ p1, x.block < W.heap.size := by obtain ⟨m, hm⟩ := k1; exact DataW.trod_lt m _ _ _ hm
  obtain ⟨o, u1, u2, A1, c1, l1, A2, c2, l2, rfl, hwo, R1, R2⟩ := Print.open_node hsz (j := 1) rfl rfl (hval 1 25 v1 rfl rfl) h1
  obtain rfl := R1.eq
  obtain rfl := R2.eq
  clear hA0 hval0 hsz0 hsz
  obtain ⟨k, hk⟩ := Pure.OpOnward a0 o l1 l2 a2 R1.size R2.size
  refine (Print.fluxionlaw11_OpOnward.calls k a0 o A1 c1 l1 A2 c2 l2 a2 true W R1.cells R1.cap R2.cells R2.cap hk).mono fun e W' ⟨he, bel⟩ => ?_
  subst he
  exact ⟨_, rfl, _, _, _, [], _, [], hW', trodAll_mk1 (shut_bool Try.underlying4 _), (trodAll_cons_mk (shut_int Try.underlying3 w0) (trodAll_cons_mk (Below.trod laidOut (by kernel_rfl) (of_decide_eq_true (by kernel_rfl)) k1 bel lt1) (trodAll_cons_mk (shut_int Try.underlying3 w2) trodAll_mk0))), rfl, bel.frame _, fun h => by cases h⟩
theorem over : Rows.opOnwardRow.holds Try.pinned (OpenSpec.ofChange Rows.opOnwardSpec) :=
  OpenClaim.holds_of_wide 5 Try.f5 rfl rfl rfl rfl rfl rfl rfl ⟨rfl, rfl, rfl, rfl, rfl⟩ rfl rfl rfl rfl rfl (by kernel_rfl) Try.func5 (by kernel_rfl)
    (of_decide_eq_true (by kernel_rfl)) (by unfold Func.isWrapper; first | (rw [if_pos (by decide +kernel)]; kernel_rfl) | (rw [if_neg (by decide +kernel)]; exact ⟨rfl, rfl⟩))
    (fun os started H enc _ => lifted os started H enc)
theorem proved : Rows.OpOnwardSaid := over
#print axioms proved
end Go.Proofs.Ytbefcdidlfkmnaa.opOnward
namespace Go.Proofs.Ytbefcdidlfkmnaa
/-- The row, under a short name, for the claim. -/
theorem opOnward_holds : Rows.OpOnwardSaid := opOnward.proved
end Go.Proofs.Ytbefcdidlfkmnaa
