/- ShapeOrder: the places 0, 1 and so on have all indexes, in order, for every shape. No condition. -/
import Derived.Test.YtfkohjngogjmkaaL7
import Derived.Test.YtfkohjngogjmkaaPu5
import Derived.Test.YtfkohjngogjmkaaKnown
namespace Go.Proofs.Ytfkohjngogjmkaa.Pure
open Go.RowKit Go.Proofs.Ytfkohjngogjmkaa.Print Go.Proofs.YtfkohjngogjmkaaW.PrintWords Go.Proofs.YtfkohjngogjmkaaW.PrintLast
theorem order_loop (s : List Int) (h0 : mayS s = 0) : ∀ (m : Nat) (i : Nat), (pr s).toNat - i = m → i ≤ (pr s).toNat →
    Ev (fun k => fluxionlaw06_ShapeOrder.l0 k s (idxs s (pr s).toNat) (i : Int)) true := by
  obtain ⟨h, hp, hb⟩ := may_ok h0
  intro m
  have hpos := pr_pos s hp
  induction m with
  | zero =>
    intro i hm hi
    refine Ev.step (fun k => ?_) (Ev.bind (f := fun _ t => some t) known_ev (Ev.now _))
    simp only [fluxionlaw06_ShapeOrder.l0]; rw [idxs_length, if_neg (by omega)]
  | succ m ih =>
    intro i hm hi
    have hlt : i < (pr s).toNat := by omega
    have hix := index_ev s (i : Int) (by omega) (by omega)
    have e : ixS s (i : Int) = (ixOf s (i : Int), 0) := by
      unfold ixS; rw [if_pos h0]
      have hc : 0 ≤ (i : Int) ∧ (i : Int) < pr s := by omega
      rw [if_pos hc]
    rw [e] at hix
    refine Ev.step (fun k => ?_) (Ev.bind (f := fun k (b : List Int × Int) => if b.2 = 0 then (if 0 ≤ (i : Int) then (fluxionref06_SameList.f k b.1 (rd_L9 (idxs s (pr s).toNat) (i : Int))).bind fun t => if t = true then fluxionlaw06_ShapeOrder.l0 k s (idxs s (pr s).toNat) (wrap64 ((i : Int) + 1)) else some false else none) else some false) hix ?_)
    · simp only [fluxionlaw06_ShapeOrder.l0]; rw [idxs_length, if_pos (by omega)]
    · simp only [if_true]
      have hci : (0 : Int) ≤ (i : Int) := by omega
      simp only [if_pos hci]
      rw [rd_idxs s _ i hlt, wrap_id (by omega) (by omega)]
      refine Ev.bind (same_ev _ _ (by rw [ixOf_length]; omega)) ?_
      simp only [decide_true, if_true]
      exact ih (i + 1) (by omega) (by omega)
theorem ShapeOrder : fluxionlaw06_ShapeOrder.Pure := by
  intro s _ hs _
  refine Ev.rounds (g := fun k => fluxionlaw06_ShapeOrder.f k s) ?_
  refine Ev.bind (refmay_ev s (by omega)) ?_
  have hk : Ev (fun k => (fluxionlaw06_known.f k).bind fun t => some t) true := Ev.bind (f := fun _ t => some t) known_ev (Ev.now _)
  by_cases h0 : mayS s = 0
  · obtain ⟨h, hp, hb⟩ := may_ok h0
    have hpos := pr_pos s hp
    simp only [h0, if_true]
    refine Ev.bind (indexes_ev s h hp hb) ?_
    refine Ev.bind (count_ev s (by omega)) ?_
    rw [if_pos h0, idxs_length]
    have hci : ((pr s).toNat : Int) = pr s := by omega
    simp only [if_pos hci]
    exact order_loop s h0 (pr s).toNat 0 (by omega) (by omega)
  · simp only [h0, if_false]; exact hk
end Go.Proofs.Ytfkohjngogjmkaa.Pure
