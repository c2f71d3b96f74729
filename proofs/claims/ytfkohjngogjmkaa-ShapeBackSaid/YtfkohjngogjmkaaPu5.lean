/- Plain laws on the Lean functions of chapter 06's reference: Next, Indexes, Offset. No condition beyond those written. -/
import Derived.Test.YtfkohjngogjmkaaA12
import Derived.Test.YtfkohjngogjmkaaA11
import Derived.Test.YtfkohjngogjmkaaA10
import Derived.Test.YtfkohjngogjmkaaPu4
namespace Go.Proofs.Ytfkohjngogjmkaa.Print
open Go.RowKit Go.Proofs.YtfkohjngogjmkaaW.PrintWords Go.Proofs.YtfkohjngogjmkaaW.PrintLast

theorem next_loop (s : List Int) (h : s.length ≤ 4) : ∀ (m : Nat) (x : List Int), m ≤ s.length → x.length = s.length → (∀ i ∈ x, -1000000 ≤ i ∧ i ≤ 1000000) →
    Ev (fun k => fluxionref06_Next.l0 k s x ((m : Int) - 1)) ((nextR (s.take m).reverse (x.take m).reverse).1.reverse ++ x.drop m, (nextR (s.take m).reverse (x.take m).reverse).2)
  | 0, x, hm, hl, hb => by
    simp only [List.take_zero, List.reverse_nil, nextR, List.nil_append, List.drop_zero]
    refine Ev.step (f := fun _ => some (x, false)) (fun k => ?_) (Ev.now _)
    simp only [fluxionref06_Next.l0]; rw [if_neg (by omega)]
  | m + 1, x, hm, hl, hb => by
    have hs : m < s.length := by omega
    have hx : m < x.length := by omega
    have hbm := hb _ (List.getElem_mem hx)
    rw [← rd_nat x m hx] at hbm
    rw [rev_take s m hs, rev_take x m hx, nextR]
    have e1 : ((m + 1 : Nat) : Int) - 1 = (m : Int) := by omega
    have ew : wrap64 (rd x (m : Int) + 1) = rd x (m : Int) + 1 := wrap_id (by omega) (by omega)
    by_cases hc : rd x (m : Int) + 1 < rd s (m : Int)
    · rw [if_pos hc]
      refine Ev.step (f := fun _ => some (x.set m (rd x (m : Int) + 1), true)) (fun k => ?_) ?_
      · simp only [fluxionref06_Next.l0]; rw [e1, if_pos (by omega), if_pos (by omega), if_pos (by omega), if_pos (by omega), ew, if_pos hc, Int.toNat_natCast]
      · rw [List.set_eq_take_append_cons_drop, if_pos hx]; simp; exact Ev.now _
    · rw [if_neg hc]
      have hx' : m < (x.set m 0).length := by rw [List.length_set]; exact hx
      have ih := next_loop s h m (x.set m 0) (by omega) (by rw [List.length_set]; exact hl) (by
        intro i hi
        rcases List.mem_or_eq_of_mem_set hi with h1 | h1
        · exact hb i h1
        · omega)
      have t1 : (x.set m 0).take m = x.take m := by rw [List.take_set, List.set_eq_of_length_le (by rw [List.length_take]; omega)]
      have t2 : (x.set m 0).drop m = 0 :: x.drop (m + 1) := by
        rw [List.drop_set, if_neg (by omega), Nat.sub_self, List.drop_eq_getElem_cons hx]; rfl
      rw [t1, t2] at ih
      refine Ev.step (fun k => ?_) (by simpa using ih)
      simp only [fluxionref06_Next.l0]; rw [e1, if_pos (by omega), if_pos (by omega), if_pos (by omega), if_pos (by omega), ew, if_neg hc, Int.toNat_natCast, wrap_id (by omega) (by omega)]

theorem ixOf_bound (s : List Int) (p : Int) (hp : ∀ d ∈ s, 1 ≤ d) (hb : pr s ≤ 1024) (h0 : 0 ≤ p) (h1 : p < pr s) : ∀ i ∈ ixOf s p, -1000000 ≤ i ∧ i ≤ 1000000 := by
  have hin : inB s.reverse (digR s.reverse p) = true := (offR_digR s.reverse p (by simpa using hp) h0 (by rw [pr_reverse]; exact h1)).2
  have gen : ∀ (r j : List Int), inB r j = true → (∀ d ∈ r, d ≤ 1024) → ∀ i ∈ j, -1000000 ≤ i ∧ i ≤ 1000000 := by
    intro r
    induction r with
    | nil => intro j hj _ i hi; cases j with
      | nil => cases hi
      | cons _ _ => simp [inB] at hj
    | cons d r ih => intro j hj hd i hi; cases j with
      | nil => cases hi
      | cons a j =>
        simp only [inB, Bool.and_eq_true, decide_eq_true_eq] at hj
        have hd1 := hd d (List.mem_cons_self ..)
        rcases List.mem_cons.1 hi with rfl | hi
        · omega
        · exact ih j hj.2 (fun x hx => hd x (List.mem_cons_of_mem _ hx)) i hi
  intro i hi
  refine gen s.reverse (digR s.reverse p) hin ?_ i (by simpa [ixOf] using hi)
  intro d hd
  have hd : d ∈ s := by simpa using hd
  obtain ⟨a, b, rfl⟩ := List.append_of_mem hd
  have ha := pr_pos a (fun x hx => hp x (by simp [hx]))
  have hbb := pr_pos b (fun x hx => hp x (by simp [hx]))
  have hdd := hp d hd
  rw [pr_append, pr] at hb
  have h1 : d * 1 ≤ d * pr b := Int.mul_le_mul_of_nonneg_left hbb (by omega)
  have h2 : 1 * (d * pr b) ≤ pr a * (d * pr b) := Int.mul_le_mul_of_nonneg_right ha (by omega)
  omega

theorem next_ev (s : List Int) (p : Int) (h : s.length ≤ 4) (hp : ∀ d ∈ s, 1 ≤ d) (hb : pr s ≤ 1024) (h0 : 0 ≤ p) (h1 : p < pr s) :
    Ev (fun k => fluxionref06_Next.f k s (ixOf s p)) (if p + 1 < pr s then (ixOf s (p + 1), true) else (ixOf s 0, false)) := by
  have hl := ixOf_length s p
  have hn := next_loop s h s.length (ixOf s p) (Nat.le_refl _) hl (ixOf_bound s p hp hb h0 h1)
  rw [List.take_length, List.take_of_length_le (by omega), List.drop_of_length_le (by omega), List.append_nil] at hn
  have e : (ixOf s p).reverse = digR s.reverse p := by simp [ixOf]
  rw [e, nextR_digR _ _ (by simpa using hp) h0 (by rw [pr_reverse]; exact h1), pr_reverse] at hn
  have hn2 : Ev (fun k => fluxionref06_Next.l0 k s (ixOf s p) ((s.length : Int) - 1)) (if p + 1 < pr s then (ixOf s (p + 1), true) else (ixOf s 0, false)) := by
    by_cases hc : p + 1 < pr s
    · rw [if_pos hc] at hn ⊢; exact hn
    · rw [if_neg hc] at hn ⊢; exact hn
  refine Ev.congr (fun k => ?_) hn2
  unfold fluxionref06_Next.f
  rw [if_pos (by simp; omega), List.nil_append, wrap_id (by omega) (by omega)]

/-- The first m indexes. -/
def idxs (s : List Int) (m : Nat) : List (List Int) := (List.range m).map fun (p : Nat) => ixOf s (p : Int)
theorem idxs_length (s : List Int) (m : Nat) : (idxs s m).length = m := by simp [idxs]
theorem rd_idxs (s : List Int) (m i : Nat) (h : i < m) : rd_L9 (idxs s m) (i : Int) = ixOf s (i : Int) := by
  simp [rd_L9, idxs, h]

theorem indexes_loop (s : List Int) (h : s.length ≤ 4) (hp : ∀ d ∈ s, 1 ≤ d) (hb : pr s ≤ 1024) : ∀ (m : Nat) (j : Nat), (pr s).toNat - (j + 1) = m → j + 1 ≤ (pr s).toNat →
    Ev (fun k => fluxionref06_Indexes.l0 k s (idxs s (j + 1))) (idxs s (pr s).toNat) := by
  intro m
  induction m with
  | zero =>
    intro j hm hj
    have hpos := pr_pos s hp
    have hn := next_ev s (j : Int) h hp hb (by omega) (by omega)
    rw [if_neg (by omega)] at hn
    refine Ev.step (fun k => ?_) (Ev.bind (f := fun k t => if t.2 = true then fluxionref06_Indexes.l0 k s (idxs s (j + 1) ++ [t.1]) else some (idxs s (j + 1))) hn ?_)
    · simp only [fluxionref06_Indexes.l0]
      rw [idxs_length, show wrap64 (((j + 1 : Nat) : Int) - 1) = (j : Int) by rw [wrap_id (by omega) (by omega)]; omega, if_pos (by omega), if_pos (by omega), rd_idxs s (j + 1) j (by omega)]
      congr 1; funext t; congr 1; rw [if_pos (by omega)]
    · simp only [Bool.false_eq_true, if_false]; rw [show (pr s).toNat = j + 1 by omega]; exact Ev.now _
  | succ m ih =>
    intro j hm hj
    have hpos := pr_pos s hp
    have hn := next_ev s (j : Int) h hp hb (by omega) (by omega)
    rw [if_pos (by omega)] at hn
    refine Ev.step (fun k => ?_) (Ev.bind (f := fun k t => if t.2 = true then fluxionref06_Indexes.l0 k s (idxs s (j + 1) ++ [t.1]) else some (idxs s (j + 1))) hn ?_)
    · simp only [fluxionref06_Indexes.l0]
      rw [idxs_length, show wrap64 (((j + 1 : Nat) : Int) - 1) = (j : Int) by rw [wrap_id (by omega) (by omega)]; omega, if_pos (by omega), if_pos (by omega), rd_idxs s (j + 1) j (by omega)]
      congr 1; funext t; congr 1; rw [if_pos (by omega)]
    · simp only [if_true]
      have e : idxs s (j + 1) ++ [ixOf s ((j : Int) + 1)] = idxs s (j + 1 + 1) := by
        unfold idxs; rw [List.range_succ (n := j + 1), List.map_append]; rfl
      rw [e]; exact ih (j + 1) (by omega) (by omega)

theorem indexes_ev (s : List Int) (h : s.length ≤ 4) (hp : ∀ d ∈ s, 1 ≤ d) (hb : pr s ≤ 1024) : Ev (fun k => fluxionref06_Indexes.f k s) (idxs s (pr s).toNat) := by
  have hpos := pr_pos s hp
  have hi := indexes_loop s h hp hb ((pr s).toNat - 1) 0 (by omega) (by omega)
  refine Ev.congr (fun k => ?_) hi
  unfold fluxionref06_Indexes.f
  rw [if_pos (by omega), if_pos (by omega), Int.toNat_natCast]
  simp [idxs, ixOf, digR_zero]

theorem refoffset_loop (s x : List Int) (h : s.length ≤ 4) (hp : ∀ d ∈ s, 1 ≤ d) (hb : pr s ≤ 1024) (hl : x.length = s.length) : ∀ (m : Nat) (i : Nat), (pr s).toNat - i = m → i ≤ (pr s).toNat → (inB s.reverse x.reverse = true → (i : Int) ≤ offR s.reverse x.reverse) →
    Ev (fun k => fluxionref06_Offset.l0 k x (idxs s (pr s).toNat) (i : Int)) (offOf s x) := by
  intro m
  have hpos := pr_pos s hp
  induction m with
  | zero =>
    intro i hm hi hle
    have hno : ¬ inB s.reverse x.reverse = true := by
      intro hin
      have := (digR_offR _ _ hin).2.2
      rw [pr_reverse] at this
      have := hle hin
      omega
    unfold offOf; rw [if_neg hno]
    refine Ev.step (f := fun _ => some (0, 21)) (fun k => ?_) (Ev.now _)
    simp only [fluxionref06_Offset.l0]; rw [idxs_length, if_neg (by omega)]
  | succ m ih =>
    intro i hm hi hle
    have hlt : i < (pr s).toNat := by omega
    have hsame := same_ev (ixOf s (i : Int)) x (by rw [ixOf_length]; omega)
    refine Ev.step (fun k => ?_) (Ev.bind (f := fun k t => if t = true then some ((i : Int), 0) else fluxionref06_Offset.l0 k x (idxs s (pr s).toNat) ((i : Int) + 1)) hsame ?_)
    · simp only [fluxionref06_Offset.l0]
      rw [idxs_length, if_pos (by omega), if_pos (by omega), rd_idxs s _ i hlt, wrap_id (by omega) (by omega)]
    · by_cases e : ixOf s (i : Int) = x
      · simp only [e, decide_true, if_true]
        have hin := offR_digR s.reverse (i : Int) (by simpa using hp) (by omega) (by rw [pr_reverse]; omega)
        have ex : x.reverse = digR s.reverse (i : Int) := by rw [← e]; simp [ixOf]
        unfold offOf
        rw [ex, if_pos hin.2, hin.1]; exact Ev.now _
      · simp only [e, decide_false, Bool.false_eq_true, if_false]
        refine ih (i + 1) (by omega) (by omega) (fun hin => ?_)
        have h1 := hle hin
        have h2 : (i : Int) ≠ offR s.reverse x.reverse := by
          intro h3
          apply e
          have := (digR_offR _ _ hin).1
          rw [← h3] at this
          rw [ixOf, this]; simp
        omega

theorem refoffset_ev (s x : List Int) (hs : s.length ≤ 4611686018427387904) : Ev (fun k => fluxionref06_Offset.f k s x) (offS s x) := by
  refine Ev.congr (fun k => ?_) (Ev.bind (f := fun k t => if t = 0 then (if (x.length : Int) = (s.length : Int) then (fluxionref06_Indexes.f k s).bind fun t2 => fluxionref06_Offset.l0 k x t2 0 else some (0, 2)) else some (0, t)) (refmay_ev s hs) ?_)
  · unfold fluxionref06_Offset.f; rfl
  · unfold offS
    by_cases h : mayS s = 0
    · obtain ⟨h1, h2, h3⟩ := may_ok h
      simp only [h, if_true]
      by_cases hl : x.length = s.length
      · rw [if_pos hl]
        have hl' : (x.length : Int) = (s.length : Int) := by omega
        simp only [hl', if_true]
        refine Ev.bind (indexes_ev s h1 h2 h3) ?_
        exact refoffset_loop s x h1 h2 h3 hl (pr s).toNat 0 (by omega) (by omega) (fun hin => (digR_offR _ _ hin).2.1)
      · rw [if_neg hl]
        have hl' : ¬ (x.length : Int) = (s.length : Int) := by omega
        simp only [hl', if_false]; exact Ev.now _
    · simp only [h, if_false]; exact Ev.now _
end Go.Proofs.Ytfkohjngogjmkaa.Print
