/- Plain laws on the Lean functions of chapter 06 (shape): Offset and Index. No condition beyond those written. -/
import Derived.Test.YtfkohjngogjmkaaA4
import Derived.Test.YtfkohjngogjmkaaHIndex
import Derived.Test.YtfkohjngogjmkaaPu3
namespace Go.Proofs.Ytfkohjngogjmkaa.Print
open Go.RowKit Go.Proofs.YtfkohjngogjmkaaW.PrintWords Go.Proofs.YtfkohjngogjmkaaW.PrintLast

/-- What an index' place is, in a shape that may be. -/
def offOf (s x : List Int) : Int × Int := if inB s.reverse x.reverse = true then (offR s.reverse x.reverse, 0) else (0, 21)

theorem pr_take {s : List Int} (hp : ∀ d ∈ s, 1 ≤ d) (t : Nat) : 1 ≤ pr (s.take t) ∧ pr (s.take t) ≤ pr s := by
  have h1 := pr_pos (s.drop t) (fun d hd => hp d (List.mem_of_mem_drop hd))
  have h2 := pr_pos (s.take t) (fun d hd => hp d (List.mem_of_mem_take hd))
  have e := pr_append (s.take t) (s.drop t)
  rw [List.take_append_drop] at e
  refine ⟨h2, ?_⟩
  rw [e]
  have : pr (s.take t) * 1 ≤ pr (s.take t) * pr (s.drop t) := Int.mul_le_mul_of_nonneg_left h1 (by omega)
  omega

theorem offset_loop (s x : List Int) (hl : x.length = s.length) (h : s.length ≤ 4) (hp : ∀ d ∈ s, 1 ≤ d) (hb : pr s ≤ 1024) : ∀ (m : Nat) (t : Nat), s.length - t = m → t ≤ s.length → inB (s.take t).reverse (x.take t).reverse = true →
    Ev (fun k => shape_Offset.l0 k x (offR (s.take t).reverse (x.take t).reverse) s (s.length : Int) (t : Int)) (offOf s x)
  | 0, t, hm, ht, hin => by
    have e : t = s.length := by omega
    subst e
    rw [List.take_length, List.take_of_length_le (by omega)] at hin ⊢
    unfold offOf
    rw [if_pos hin]
    refine Ev.step (f := fun _ => some (offR s.reverse x.reverse, 0)) (fun k => ?_) (Ev.now _)
    simp only [shape_Offset.l0]; rw [if_neg (by omega)]
  | m + 1, t, hm, ht, hin => by
    have hlt : t < s.length := by omega
    have hs := rev_split s t hlt
    have hx := rev_split x t (by omega)
    have hlen : (s.drop (t + 1)).reverse.length = (x.drop (t + 1)).reverse.length := by simp [hl]
    have hbad : (rd x (t : Int) < 0 ∨ rd x (t : Int) ≥ rd s (t : Int)) → offOf s x = (0, 21) := by
      intro hc
      unfold offOf
      rw [if_neg]
      rw [hs, hx, inB_append _ _ _ _ hlen, inB]
      rcases hc with hc | hc
      · rw [decide_eq_false (by omega : ¬ 0 ≤ rd x (t : Int))]; simp
      · rw [decide_eq_false (by omega : ¬ rd x (t : Int) < rd s (t : Int))]; simp
    by_cases h0 : rd x (t : Int) < 0
    · rw [hbad (.inl h0)]
      refine Ev.step (f := fun _ => some (0, 21)) (fun k => ?_) (Ev.now _)
      simp only [shape_Offset.l0]; rw [if_pos (by omega), if_pos (by omega), if_pos (by omega), if_pos (by omega), if_pos h0]
    · by_cases h1 : rd x (t : Int) ≥ rd s (t : Int)
      · rw [hbad (.inr h1)]
        refine Ev.step (f := fun _ => some (0, 21)) (fun k => ?_) (Ev.now _)
        simp only [shape_Offset.l0]; rw [if_pos (by omega), if_pos (by omega), if_pos (by omega), if_pos (by omega), if_neg h0, if_pos h1]
      · have hin2 : inB (s.take (t + 1)).reverse (x.take (t + 1)).reverse = true := by
          rw [rev_take s t hlt, rev_take x t (by omega), inB, hin, decide_eq_true (by omega : 0 ≤ rd x (t : Int)), decide_eq_true (by omega : rd x (t : Int) < rd s (t : Int))]; rfl
        have ih := offset_loop s x hl h hp hb m (t + 1) (by omega) (by omega) hin2
        obtain ⟨_, b0, b1⟩ := digR_offR _ _ hin2
        obtain ⟨_, a0, a1⟩ := digR_offR _ _ hin
        have hd : 1 ≤ rd s (t : Int) := by rw [rd_nat s t hlt]; exact hp _ (List.getElem_mem hlt)
        have hpt := (pr_take hp (t + 1)).2
        rw [pr_reverse] at b1
        rw [rev_take s t hlt, rev_take x t (by omega), offR] at b0 b1 ih
        have hmul : 0 ≤ offR (s.take t).reverse (x.take t).reverse * rd s (t : Int) := Int.mul_nonneg a0 (by omega)
        refine Ev.step (fun k => ?_) ih
        simp only [shape_Offset.l0]; rw [if_pos (by omega), if_pos (by omega), if_pos (by omega), if_pos (by omega), if_neg h0, if_neg h1, wrap_id (x := offR (s.take t).reverse (x.take t).reverse * rd s (t : Int)) (by omega) (by omega), wrap_id (by omega) (by omega), wrap_id (by omega) (by omega)]
        rfl

/-- shape.Offset, whatever the shape and the index. -/
def offS (s x : List Int) : Int × Int := if mayS s = 0 then (if x.length = s.length then offOf s x else (0, 2)) else (0, mayS s)
theorem offset_ev (s x : List Int) (hs : s.length ≤ 4611686018427387904) : Ev (fun k => shape_Offset.f k s x) (offS s x) := by
  refine Ev.congr (fun k => ?_) (Ev.bind (f := fun k t => if t = 0 then (if (x.length : Int) = (s.length : Int) then shape_Offset.l0 k x 0 s (s.length : Int) 0 else some (0, 2)) else some (0, t)) (may_ev s hs) ?_)
  · unfold shape_Offset.f; rfl
  · unfold offS
    by_cases h : mayS s = 0
    · obtain ⟨h1, h2, h3⟩ := may_ok h
      simp only [h, if_true]
      by_cases hl : x.length = s.length
      · rw [if_pos hl]
        have hl' : (x.length : Int) = (s.length : Int) := by omega
        simp only [hl', if_true]
        exact offset_loop s x hl h1 h2 h3 s.length 0 (by omega) (by omega) rfl
      · rw [if_neg hl]
        have hl' : ¬ (x.length : Int) = (s.length : Int) := by omega
        simp only [hl', if_false]; exact Ev.now _
    · simp only [h, if_false]; exact Ev.now _

/-! ### Index -/
theorem digR_get : ∀ (r : List Int) (p : Int) (k : Nat) (h : k < r.length), (digR r p)[k]? = some ((r.take k).foldl (· / ·) p % r[k])
  | d :: r, p, 0, _ => by simp [digR]
  | d :: r, p, k + 1, h => by
    have := digR_get r (p / d) k (by simpa using h)
    simpa [digR] using this

theorem ixRun_take (s : List Int) (p : Int) : ∀ (k : Nat), k ≤ s.length →
    ixRun s p ((backs s.length).take k) = (List.replicate (s.length - k) 0 ++ ((digR s.reverse p).take k).reverse, (s.reverse.take k).foldl (· / ·) p)
  | 0, _ => by simp [ixRun]
  | k + 1, h => by
    have ih := ixRun_take s p k (by omega)
    have hb : (backs s.length).take (k + 1) = (backs s.length).take k ++ [⟨s.length - 1 - k, by omega⟩] := by
      have := backs_take s.length (s.length - 1 - k) (by omega)
      rw [show s.length - (s.length - 1 - k) = k + 1 by omega, show s.length - 1 - (s.length - 1 - k) = k by omega] at this
      exact this
    rw [hb, ixRun_snoc, ih]
    unfold ixStep
    have hk : k < s.reverse.length := by simp; omega
    have hr : rd s ((s.length - 1 - k : Nat) : Int) = s.reverse[k] := by
      rw [rd_nat s _ (by omega), List.getElem_reverse]
    have hdk : k < (digR s.reverse p).length := by rw [digR_length]; exact hk
    have hg := digR_get s.reverse p k hk
    rw [List.getElem?_eq_getElem hdk] at hg
    have hg := Option.some.inj hg
    dsimp only
    rw [hr]
    refine Prod.ext ?_ ?_
    · dsimp only
      rw [List.take_succ_eq_append_getElem hdk, List.reverse_append, hg]
      rw [show s.length - k = (s.length - (k + 1)) + 1 by omega, List.replicate_succ', List.append_assoc]
      rw [List.set_append, if_neg (by simp; omega)]
      simp [show s.length - 1 - k - (s.length - (k + 1)) = 0 by omega]
    · dsimp only
      rw [List.take_succ_eq_append_getElem hk, List.foldl_append]; rfl

theorem ixRun_all (s : List Int) (p : Int) : (ixRun s p (backs s.length)).1 = ixOf s p := by
  have h := ixRun_take s p s.length (Nat.le_refl _)
  rw [List.take_of_length_le (by rw [backs_length]; omega)] at h
  rw [h]
  simp only [Nat.sub_self, List.replicate_zero, List.nil_append]
  rw [List.take_of_length_le (by rw [digR_length]; simp)]; rfl

/-- shape.Index, whatever the shape and the place. -/
def ixS (s : List Int) (p : Int) : List Int × Int := if mayS s = 0 then (if 0 ≤ p ∧ p < pr s then (ixOf s p, 0) else ([], 21)) else ([], mayS s)
theorem index_ev (s : List Int) (p : Int) (hs : s.length ≤ 4611686018427387904) (hp : p ≤ 9223372036854775807) : Ev (fun k => shape_Index.f k s p) (ixS s p) := by
  unfold shape_Index.f ixS
  refine Ev.bind (may_ev s hs) ?_
  by_cases h : mayS s = 0
  · obtain ⟨h1, h2, h3⟩ := may_ok h
    simp only [h, if_true]
    by_cases c1 : p < 0
    · have hc : ¬ (0 ≤ p ∧ p < pr s) := by omega
      rw [if_neg hc]; simp only [c1, if_true]; exact Ev.now _
    · simp only [c1, if_false]
      have hpe := product_ev s hs h2
      rw [prodS_small s 1 (by omega) h2 (by omega), Int.one_mul] at hpe
      refine Ev.bind hpe ?_
      by_cases c2 : p ≥ pr s
      · have hc : ¬ (0 ≤ p ∧ p < pr s) := by omega
        rw [if_neg hc]; simp only [c2, if_true]; exact Ev.now _
      · have hc : 0 ≤ p ∧ p < pr s := by omega
        rw [if_pos hc]; simp only [c2, if_false]
        rw [if_pos (by simpa using h2), if_pos hp, if_pos (by omega), ixRun_all]; exact Ev.now _
  · simp only [h, if_false]; exact Ev.now _
end Go.Proofs.Ytfkohjngogjmkaa.Print
