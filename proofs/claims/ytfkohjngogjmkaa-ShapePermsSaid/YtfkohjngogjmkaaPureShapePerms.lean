/- ShapePerms: shape.Perm answers as the document's; the inverse of a permutation leads back, and its own inverse is the permutation; for every list of at most 100 numbers and every rank. No condition. -/
import Derived.Test.YtfkohjngogjmkaaP2
import Derived.Test.YtfkohjngogjmkaaP1
import Derived.Test.YtfkohjngogjmkaaA23
import Derived.Test.YtfkohjngogjmkaaA20
import Derived.Test.YtfkohjngogjmkaaHPerm
import Derived.Test.YtfkohjngogjmkaaPu1
import Derived.Test.YtfkohjngogjmkaaKnown
namespace Go.Proofs.Ytfkohjngogjmkaa.Pure
open Go.RowKit Go.Proofs.Ytfkohjngogjmkaa.Print Go.Proofs.YtfkohjngogjmkaaW.PrintWords Go.Proofs.YtfkohjngogjmkaaW.PrintLast

theorem pigeon : ∀ (a b : List Int), a.Nodup → (∀ x ∈ a, x ∈ b) → b.length ≤ a.length → a.Perm b
  | [], b, _, _, hl => by
    have : b = [] := List.eq_nil_of_length_eq_zero (by simpa using hl)
    rw [this]
  | x :: a, b, hn, hs, hl => by
    have hx := hs x (List.mem_cons_self ..)
    have hp := List.perm_cons_erase hx
    rw [List.nodup_cons] at hn
    have hlen := List.length_erase_of_mem hx
    have hpos := List.length_pos_of_mem hx
    refine (List.Perm.cons x (pigeon a (b.erase x) hn.2 (fun y hy => ?_) (by simp only [List.length_cons] at hl; omega))).trans hp.symm
    have hne : y ≠ x := fun e => hn.1 (e ▸ hy)
    exact (List.mem_erase_of_ne hne).2 (hs y (List.mem_cons_of_mem _ hy))

def rangeI (n : Nat) : List Int := (List.range n).map fun (i : Nat) => (i : Int)
theorem rangeI_length (n : Nat) : (rangeI n).length = n := by simp [rangeI]
theorem mem_rangeI {n : Nat} {x : Int} : x ∈ rangeI n ↔ ∃ i : Nat, i < n ∧ (i : Int) = x := by simp [rangeI]
theorem rangeI_lt (n : Nat) : (rangeI n).Pairwise (· < ·) := by
  unfold rangeI; rw [List.pairwise_map]
  exact List.pairwise_lt_range.imp (fun h => by omega)
theorem rangeI_nodup (n : Nat) : (rangeI n).Nodup := by
  rw [List.nodup_iff_pairwise_ne]
  exact (rangeI_lt n).imp (fun h => by omega)
theorem rd_rangeI (n i : Nat) (h : i < n) : rd (rangeI n) (i : Int) = (i : Int) := by
  rw [rd_nat _ _ (by rw [rangeI_length]; exact h)]; simp [rangeI]

/-- A permutation of 0, 1 and so on: each number below the length is named. -/
def IsP (p : List Int) : Prop := ∀ i : Nat, i < p.length → (i : Int) ∈ p
instance (p : List Int) : Decidable (IsP p) := by unfold IsP; infer_instance
theorem IsP.perm {p : List Int} (h : IsP p) : (rangeI p.length).Perm p := by
  refine pigeon _ _ (rangeI_nodup _) (fun x hx => ?_) (by rw [rangeI_length]; exact Nat.le_refl _)
  obtain ⟨i, hi, rfl⟩ := mem_rangeI.1 hx
  exact h i hi
theorem sorted_iff (p : List Int) : (∀ i : Nat, i < p.length → rd (sortedS p) (i : Int) = (i : Int)) ↔ IsP p := by
  have hperm : (sortedS p).Perm p := List.mergeSort_perm p _
  constructor
  · intro h i hi
    have hi' : i < (sortedS p).length := by rw [sortedS_length]; exact hi
    have := h i hi
    rw [rd_nat _ _ hi'] at this
    have hm : (sortedS p)[i] ∈ sortedS p := List.getElem_mem hi'
    rw [this] at hm
    exact hperm.mem_iff.1 hm
  · intro h i hi
    have e : sortedS p = rangeI p.length := by
      refine List.Perm.eq_of_pairwise (le := fun a b : Int => a ≤ b) (fun a b _ _ h1 h2 => by omega) ?_ ((rangeI_lt _).imp (fun h => by omega)) (hperm.trans h.perm.symm)
      exact (List.pairwise_mergeSort (le := fun x y : Int => decide (x ≤ y)) (fun a b c h1 h2 => by simp at *; omega) (fun a b => by simp; omega) p).imp (fun h => by simpa using h)
    rw [e, rd_rangeI _ _ hi]
theorem permS_eq (p : List Int) (rank : Int) : permS p rank = if IsP p ∧ (p.length : Int) = max rank 0 then 0 else 11 := by
  unfold permS
  by_cases h : IsP p
  · rw [if_pos ((sorted_iff p).2 h)]
    by_cases h2 : (p.length : Int) = max rank 0
    · rw [if_pos h2, if_pos ⟨h, h2⟩]
    · rw [if_neg h2, if_neg (fun c => h2 c.2)]
  · rw [if_neg (fun c => h ((sorted_iff p).1 c)), if_neg (fun c => h c.1)]
theorem perm_ev (p : List Int) (rank : Int) (hl : p.length ≤ 1000) : Ev (fun _ => shape_Perm.f p rank) (if IsP p ∧ (p.length : Int) = max rank 0 then 0 else 11) := by
  refine Ev.congr (fun k => ?_) (Ev.now _)
  unfold shape_Perm.f; rw [if_pos hl, permS_eq]

theorem hasn_loop (l : List Int) (n : Int) (hl : l.length ≤ 4611686018427387904) : ∀ (m : Nat) (i : Nat), l.length - i = m → i ≤ l.length →
    Ev (fun k => fluxionref06_has.l0 k l n (i : Int)) (decide (n ∈ l.drop i))
  | 0, i, hm, hi => by
    have e : i = l.length := by omega
    refine Ev.step (f := fun _ => some false) (fun k => ?_) ?_
    · simp only [fluxionref06_has.l0]; rw [if_neg (by omega)]
    · rw [e, List.drop_length]; simp; exact Ev.now _
  | m + 1, i, hm, hi => by
    have hlt : i < l.length := by omega
    rw [drop_cons l i hlt]
    by_cases hc : rd l (i : Int) = n
    · refine Ev.step (f := fun _ => some true) (fun k => ?_) ?_
      · simp only [fluxionref06_has.l0]; rw [if_pos (by omega), if_pos (by omega), if_pos hc]
      · simp only [hc, List.mem_cons, true_or, decide_true]; exact Ev.now _
    · have ih := hasn_loop l n hl m (i + 1) (by omega) (by omega)
      refine Ev.step (fun k => ?_) (by simp only [List.mem_cons, show ¬ n = rd l (i : Int) from fun h => hc h.symm, false_or]; exact ih)
      simp only [fluxionref06_has.l0]; rw [if_pos (by omega), if_pos (by omega), if_neg hc, wrap_id (by omega) (by omega)]; rfl

theorem refperm_loop (p : List Int) (rank : Int) (hl : p.length ≤ 1000) : ∀ (m : Nat) (i : Nat), p.length - i = m → i ≤ p.length → (∀ j : Nat, j < i → (j : Int) ∈ p) →
    Ev (fun k => fluxionref06_Perm.l0 k p rank (i : Int)) (decide (IsP p ∧ (p.length : Int) = rank))
  | 0, i, hm, hi, hp => by
    have e : i = p.length := by omega
    have hP : IsP p := fun j hj => hp j (by omega)
    refine Ev.step (f := fun _ => some (decide (IsP p ∧ (p.length : Int) = rank))) (fun k => ?_) (Ev.now _)
    simp only [fluxionref06_Perm.l0]; rw [if_neg (by omega)]
    simp only [hP, true_and]; congr 1
  | m + 1, i, hm, hi, hp => by
    have hlt : i < p.length := by omega
    have hh := hasn_loop p (i : Int) (by omega) p.length 0 (by omega) (by omega)
    rw [List.drop_zero] at hh
    refine Ev.step (f := fun k => (fluxionref06_has.f k p (i : Int)).bind fun t => if t = true then fluxionref06_Perm.l0 k p rank ((i + 1 : Nat) : Int) else some false) (fun k => ?_) (Ev.bind hh ?_)
    · simp only [fluxionref06_Perm.l0]; rw [if_pos (by omega), wrap_id (by omega) (by omega)]; rfl
    · by_cases hc : (i : Int) ∈ p
      · simp only [hc, decide_true, if_true]
        exact refperm_loop p rank hl m (i + 1) (by omega) (by omega) (fun j hj => by
          by_cases e : j = i
          · rw [e]; exact hc
          · exact hp j (by omega))
      · simp only [hc, decide_false, Bool.false_eq_true, if_false]
        rw [decide_eq_false (fun c => hc (c.1 i hlt))]; exact Ev.now _
theorem refperm_ev (p : List Int) (rank : Int) (hl : p.length ≤ 1000) : Ev (fun k => fluxionref06_Perm.f k p rank) (decide (IsP p ∧ (p.length : Int) = max rank 0)) := by
  by_cases h : rank < 0
  · refine Ev.congr (fun k => by unfold fluxionref06_Perm.f; rw [if_pos h]) (Ev.step (fun k => by simp only [fluxionref06_Perm.j0]; rfl) ?_)
    rw [show max rank 0 = 0 by omega]
    exact refperm_loop p 0 hl p.length 0 (by omega) (by omega) (fun j hj => absurd hj (by omega))
  · refine Ev.congr (fun k => by unfold fluxionref06_Perm.f; rw [if_neg h]) (Ev.step (fun k => by simp only [fluxionref06_Perm.j0]; rfl) ?_)
    rw [show max rank 0 = rank by omega]
    exact refperm_loop p rank hl p.length 0 (by omega) (by omega) (fun j hj => absurd hj (by omega))

theorem IsP.range {p : List Int} (h : IsP p) (i : Nat) (hi : i < p.length) : 0 ≤ rd p (i : Int) ∧ rd p (i : Int) < p.length := by
  have hm : rd p (i : Int) ∈ p := by rw [rd_nat p i hi]; exact List.getElem_mem hi
  obtain ⟨j, hj, e⟩ := mem_rangeI.1 (h.perm.mem_iff.2 hm)
  omega
theorem IsP.inj {p : List Int} (h : IsP p) (i j : Nat) (hij : i < j) (hj : j < p.length) : rd p (i : Int) ≠ rd p (j : Int) := by
  have hn := h.perm.nodup (rangeI_nodup _)
  rw [List.nodup_iff_pairwise_ne, List.pairwise_iff_getElem] at hn
  rw [rd_nat p i (by omega), rd_nat p j hj]
  exact hn i j (by omega) hj hij

def invPart (p : List Int) (i : Nat) : List Int := (List.range i).foldl (fun q (j : Nat) => q.set (rd p (j : Int)).toNat (j : Int)) (List.replicate p.length 0)
def invS (p : List Int) : List Int := invPart p p.length
theorem invPart_succ (p : List Int) (i : Nat) : invPart p (i + 1) = (invPart p i).set (rd p (i : Int)).toNat (i : Int) := by
  unfold invPart; rw [List.range_succ, List.foldl_append]; rfl
theorem invPart_length (p : List Int) : ∀ i, (invPart p i).length = p.length
  | 0 => by simp [invPart]
  | i + 1 => by rw [invPart_succ, List.length_set, invPart_length p i]
theorem invPart_get {p : List Int} (h : IsP p) : ∀ i, i ≤ p.length → ∀ j : Nat, j < i → rd (invPart p i) (rd p (j : Int)) = (j : Int)
  | 0, _, j, hj => absurd hj (by omega)
  | i + 1, hi, j, hj => by
    have r1 := h.range j (by omega)
    have r2 := h.range i (by omega)
    obtain ⟨a, ha⟩ : ∃ a : Nat, rd p (j : Int) = (a : Int) := ⟨(rd p (j : Int)).toNat, by omega⟩
    obtain ⟨b, hb⟩ : ∃ b : Nat, rd p (i : Int) = (b : Int) := ⟨(rd p (i : Int)).toNat, by omega⟩
    rw [invPart_succ, ha, hb, Int.toNat_natCast, rd_nat _ _ (by rw [List.length_set, invPart_length]; omega), List.getElem_set]
    by_cases e : j = i
    · subst e
      have : b = a := by omega
      rw [if_pos this]
    · have hne := h.inj j i (by omega) (by omega)
      have : b ≠ a := fun c => hne (by omega)
      rw [if_neg this]
      have ih := invPart_get h i (by omega) j (by omega)
      rw [ha, rd_nat _ _ (by rw [invPart_length]; omega)] at ih
      exact ih
theorem invS_length (p : List Int) : (invS p).length = p.length := invPart_length p _
theorem invS_get {p : List Int} (h : IsP p) (j : Nat) (hj : j < p.length) : rd (invS p) (rd p (j : Int)) = (j : Int) := invPart_get h p.length (Nat.le_refl _) j hj
theorem invS_isP {p : List Int} (h : IsP p) : IsP (invS p) := by
  intro i hi
  rw [invS_length] at hi
  have hr := h.range i hi
  have hg := invS_get h i hi
  obtain ⟨a, ha⟩ : ∃ a : Nat, rd p (i : Int) = (a : Int) := ⟨(rd p (i : Int)).toNat, by omega⟩
  rw [ha, rd_nat _ _ (by rw [invS_length]; omega)] at hg
  rw [← hg]; exact List.getElem_mem _
theorem invS_invS {p : List Int} (h : IsP p) : invS (invS p) = p := by
  refine List.ext_getElem (by rw [invS_length, invS_length]) (fun i hi hj => ?_)
  have hr := h.range i hj
  have hg := invS_get h i hj
  obtain ⟨a, ha⟩ : ∃ a : Nat, rd p (i : Int) = (a : Int) := ⟨(rd p (i : Int)).toNat, by omega⟩
  have h2 := invS_get (invS_isP h) a (by rw [invS_length]; omega)
  rw [← ha, hg, rd_nat _ _ hi] at h2
  rw [h2, rd_nat _ _ hj]

theorem inverse_loop (p : List Int) (h : IsP p) (hl : p.length ≤ 1000) : ∀ (m : Nat) (i : Nat), p.length - i = m → i ≤ p.length →
    Ev (fun k => shape_Inverse.l0 k (invPart p i) p (p.length : Int) (i : Int)) (invS p, 0)
  | 0, i, hm, hi => by
    have e : i = p.length := by omega
    refine Ev.step (f := fun _ => some (invS p, 0)) (fun k => ?_) (Ev.now _)
    simp only [shape_Inverse.l0]; rw [if_neg (by omega), e]; rfl
  | m + 1, i, hm, hi => by
    have hr := h.range i (by omega)
    have hlen := invPart_length p i
    have ih := inverse_loop p h hl m (i + 1) (by omega) (by omega)
    refine Ev.step (fun k => ?_) ih
    simp only [shape_Inverse.l0]; rw [if_pos (by omega), if_pos (by omega), if_pos (by omega), if_pos (by omega), if_pos (by omega), invPart_succ, wrap_id (by omega) (by omega)]; rfl
theorem inverse_ev (p : List Int) (hl : p.length ≤ 1000) : Ev (fun k => shape_Inverse.f k p) (if IsP p then (invS p, 0) else ([], 11)) := by
  refine Ev.congr (fun k => ?_) (Ev.bind (f := fun k t => if t = 0 then shape_Inverse.l0 k (List.replicate p.length 0) p (p.length : Int) 0 else some ([], t)) (perm_ev p (p.length : Int) hl) ?_)
  · unfold shape_Inverse.f
    rw [if_pos (by omega), if_pos (by omega), Int.toNat_natCast]
  · by_cases h : IsP p
    · have hc : IsP p ∧ (p.length : Int) = max (p.length : Int) 0 := ⟨h, by omega⟩
      rw [if_pos h]
      simp only [if_pos hc, if_true]
      have := inverse_loop p h hl p.length 0 (by omega) (by omega)
      simpa [invPart] using this
    · rw [if_neg h]
      simp only [if_neg (fun c : IsP p ∧ (p.length : Int) = max (p.length : Int) 0 => h c.1), if_false, show ¬ (11 : Int) = 0 by decide]; exact Ev.now _

theorem perms_loop (p : List Int) (h : IsP p) (hl : p.length ≤ 1000) : ∀ (m : Nat) (i : Nat), p.length - i = m → i ≤ p.length →
    Ev (fun k => fluxionlaw06_ShapePerms.l0 k p (invS p) (i : Int)) true
  | 0, i, hm, hi => by
    have hk : Ev (fun k => (fluxionlaw06_known.f k).bind fun t => some t) true := Ev.bind (f := fun _ t => some t) known_ev (Ev.now _)
    have hinv := inverse_ev (invS p) (by rw [invS_length]; exact hl)
    rw [if_pos (invS_isP h), invS_invS h] at hinv
    refine Ev.step (fun k => by simp only [fluxionlaw06_ShapePerms.l0]; rw [if_neg (by omega)]) (Ev.bind hinv ?_)
    simp only [if_true]
    refine Ev.bind (same_ev p p (by omega)) ?_
    simp only [decide_true, if_true]; exact hk
  | m + 1, i, hm, hi => by
    have hr := h.range i (by omega)
    have hlen := invS_length p
    have hg := invS_get h i (by omega)
    refine Ev.step (fun k => ?_) (perms_loop p h hl m (i + 1) (by omega) (by omega))
    simp only [fluxionlaw06_ShapePerms.l0]; rw [if_pos (by omega), if_pos (by omega), if_pos (by omega), if_pos (by omega), if_pos hg, wrap_id (by omega) (by omega)]; rfl

theorem ShapePerms : fluxionlaw06_ShapePerms.Pure := by
  intro p rank _ _ _ _
  refine Ev.rounds (g := fun k => fluxionlaw06_ShapePerms.f k p rank) ?_
  have hk : Ev (fun k => (fluxionlaw06_known.f k).bind fun t => some t) true := Ev.bind (f := fun _ t => some t) known_ev (Ev.now _)
  by_cases hl : p.length > 100
  · refine Ev.congr (fun k => ?_) hk
    unfold fluxionlaw06_ShapePerms.f; rw [if_pos (by omega)]
  · have hl' : p.length ≤ 1000 := by omega
    have hself : ∀ q : List Int, (IsP q ∧ (q.length : Int) = max (q.length : Int) 0) ↔ IsP q := fun q => ⟨fun c => c.1, fun c => ⟨c, by omega⟩⟩
    have hj : Ev (fun k => fluxionlaw06_ShapePerms.j0 k p (if IsP p then (invS p, 0) else ([], 11) : List Int × Int).1 (if IsP p then (invS p, 0) else ([], 11) : List Int × Int).2 false) true := by
      have h1 := refperm_ev p (p.length : Int) hl'
      rw [decide_eq_decide.2 (hself p)] at h1
      refine Ev.step (fun k => by simp only [fluxionlaw06_ShapePerms.j0, Bool.false_eq_true, if_false]; rfl) (Ev.bind h1 ?_)
      by_cases h : IsP p
      · rw [decide_eq_true h]
        simp only [if_pos h, if_true]
        have h2 := refperm_ev (invS p) (p.length : Int) (by rw [invS_length]; exact hl')
        have h3 : IsP (invS p) ∧ ((invS p).length : Int) = max (p.length : Int) 0 := ⟨invS_isP h, by rw [invS_length]; omega⟩
        rw [decide_eq_true h3] at h2
        refine Ev.bind h2 ?_
        refine Ev.step (fun k => by simp only [fluxionlaw06_ShapePerms.j1, Bool.not_true, Bool.false_eq_true, if_false]; rfl) ?_
        exact perms_loop p h hl' p.length 0 (by omega) (by omega)
      · rw [decide_eq_false h]
        simp only [if_neg h, Bool.false_eq_true, if_false, if_true, List.length_nil, Int.natCast_zero]; exact hk
    refine Ev.congr (fun k => by unfold fluxionlaw06_ShapePerms.f; rw [if_neg (by omega)]) (Ev.bind (perm_ev p rank hl') ?_)
    refine Ev.bind (inverse_ev p hl') ?_
    refine Ev.bind (refperm_ev p rank hl') ?_
    by_cases h : IsP p ∧ (p.length : Int) = max rank 0
    · rw [decide_eq_true h]
      simp only [if_pos h, if_true]
      exact hj
    · rw [decide_eq_false h]
      simp only [if_neg h, if_false, show ¬ (11 : Int) = 0 by decide, Bool.false_eq_true, show ((11 : Int) != 11) = false from rfl]
      exact hj
end Go.Proofs.Ytfkohjngogjmkaa.Pure
