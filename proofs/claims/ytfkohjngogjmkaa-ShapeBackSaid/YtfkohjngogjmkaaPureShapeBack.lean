/- ShapeBack: the index of a place has that place, and it is the sum of its numbers, each times its stride; the place of an index has that index; for every shape, place and index. No condition. -/
import Derived.Test.YtfkohjngogjmkaaL3
import Derived.Test.YtfkohjngogjmkaaPu5
import Derived.Test.YtfkohjngogjmkaaKnown
namespace Go.Proofs.Ytfkohjngogjmkaa.Pure
open Go.RowKit Go.Proofs.Ytfkohjngogjmkaa.Print Go.Proofs.YtfkohjngogjmkaaW.PrintWords Go.Proofs.YtfkohjngogjmkaaW.PrintLast

/-- The sum of an index' numbers, each times its stride, from the front. -/
def sumS : List Int → List Int → Int
  | _ :: s, i :: x => i * pr s + sumS s x
  | _, _ => 0
theorem sumS_rev : ∀ (s x r j : List Int), s.length = x.length → offR (s.reverse ++ r) (x.reverse ++ j) = sumS s x + offR r j * pr s
  | [], [], r, j, _ => by simp [sumS, pr]
  | [], _ :: _, _, _, h => by simp at h
  | _ :: _, [], _, _, h => by simp at h
  | d :: s, i :: x, r, j, h => by
    rw [List.reverse_cons, List.reverse_cons, List.append_assoc, List.append_assoc, List.singleton_append, List.singleton_append, sumS_rev s x (d :: r) (i :: j) (by simpa using h), offR, sumS, pr, Int.add_mul, Int.mul_assoc]
    omega
theorem sumS_off (s x : List Int) (h : s.length = x.length) : sumS s x = offR s.reverse x.reverse := by
  have := sumS_rev s x [] [] h
  simpa [offR] using this.symm

theorem back_loop (s x : List Int) (p : Int) (y : List Int) (h0 : mayS s = 0) (hl : x.length = s.length) (hin : inB s.reverse x.reverse = true) (hp : offR s.reverse x.reverse = p) (hy : y.length ≤ 4611686018427387904) : ∀ (m : Nat) (i : Nat) (n : Int), s.length - i = m → i ≤ s.length → 0 ≤ n → n + sumS (s.drop i) (x.drop i) = p → (∀ t : Nat, t < s.length → 0 ≤ rd x (t : Int) ∧ rd x (t : Int) < rd s (t : Int)) →
    Ev (fun k => fluxionlaw06_ShapeBack.l0 k s p y x n (i : Int)) true := by
  obtain ⟨h, hp1, hb⟩ := may_ok h0
  have hb2 := (digR_offR _ _ hin).2
  rw [pr_reverse, hp] at hb2
  intro m
  induction m with
  | zero =>
    intro i n hm hi hn hs hrange
    have e : i = s.length := by omega
    have e2 : n = p := by rw [e, List.drop_length, List.drop_of_length_le (by omega)] at hs; simpa [sumS] using hs
    have hk : Ev (fun k => (fluxionlaw06_known.f k).bind fun t => some t) true := Ev.bind (f := fun _ t => some t) known_ev (Ev.now _)
    refine Ev.step (fun k => ?_) (Ev.bind (f := fun k (b : Int × Int) => if b.2 = 0 then (shape_Index.f k s b.1).bind fun c => if n = p then (if c.2 = 0 then (fluxionref06_SameList.f k c.1 y).bind fun t => if t = true then (fluxionlaw06_known.f k).bind fun t2 => some t2 else some false else some false) else some false else if n = p then (fluxionlaw06_known.f k).bind fun t3 => some t3 else some false) (offset_ev s y (by omega)) ?_)
    · simp only [fluxionlaw06_ShapeBack.l0]; rw [if_neg (by omega)]
    · simp only [e2, if_true]
      unfold offS; rw [if_pos h0]
      by_cases hly : y.length = s.length
      · rw [if_pos hly]
        unfold offOf
        by_cases hyin : inB s.reverse y.reverse = true
        · rw [if_pos hyin]
          obtain ⟨d1, d2, d3⟩ := digR_offR _ _ hyin
          rw [pr_reverse] at d3
          simp only [if_true]
          have hix := index_ev s (offR s.reverse y.reverse) (by omega) (by omega)
          have e3 : ixS s (offR s.reverse y.reverse) = (y, 0) := by
            unfold ixS; rw [if_pos h0]
            have hc : 0 ≤ offR s.reverse y.reverse ∧ offR s.reverse y.reverse < pr s := ⟨d2, d3⟩
            rw [if_pos hc, ixOf, d1, List.reverse_reverse]
          rw [e3] at hix
          refine Ev.bind hix ?_
          simp only [if_true]
          refine Ev.bind (same_ev y y (by omega)) ?_
          simp only [decide_true, if_true]; exact hk
        · rw [if_neg hyin]
          simp only [show ¬ (21 : Int) = 0 by decide, if_false]; exact hk
      · rw [if_neg hly]
        simp only [show ¬ (2 : Int) = 0 by decide, if_false]; exact hk
  | succ m ih =>
    intro i n hm hi hn hs hrange
    have hlt : i < s.length := by omega
    rw [drop_cons s i hlt, drop_cons x i (by omega), sumS] at hs
    obtain ⟨r0, r1⟩ := hrange i hlt
    obtain ⟨p0, p1⟩ := pr_drop hp1 (i + 1)
    have hm0 : 0 ≤ rd x (i : Int) * pr (s.drop (i + 1)) := Int.mul_nonneg r0 (by omega)
    have hsum : ∀ (a b : List Int), (∀ t : Nat, t < a.length → t < b.length → 0 ≤ rd b (t : Int)) → (∀ d ∈ a, 1 ≤ d) → 0 ≤ sumS a b := by
      intro a
      induction a with
      | nil => intro b _ _; cases b <;> simp [sumS]
      | cons d a iha => intro b hb1 hb2; cases b with
        | nil => simp [sumS]
        | cons c b =>
          rw [sumS]
          have q1 : 0 ≤ c := by have := hb1 0 (by simp) (by simp); simpa [rd] using this
          have q2 := pr_pos a (fun z hz => hb2 z (List.mem_cons_of_mem _ hz))
          have q3 := iha b (fun t h1 h2 => by
            have := hb1 (t + 1) (by simp; omega) (by simp; omega)
            rw [rd_nat _ _ (by simp; omega)] at this
            rw [rd_nat _ _ h2]; simpa using this) (fun z hz => hb2 z (List.mem_cons_of_mem _ hz))
          have q4 : 0 ≤ c * pr a := Int.mul_nonneg q1 (by omega)
          omega
    have hrest : 0 ≤ sumS (s.drop (i + 1)) (x.drop (i + 1)) := hsum _ _ (fun t h1 h2 => by
      have h1' : t < s.length - (i + 1) := by simpa using h1
      have := (hrange (i + 1 + t) (by omega)).1
      rw [rd_nat _ _ (by omega)] at this
      rw [rd_nat _ _ h2, List.getElem_drop]; exact this) (fun d hd => hp1 d (List.mem_of_mem_drop hd))
    refine Ev.step (fun k => ?_) (Ev.bind (f := fun k t => fluxionlaw06_ShapeBack.l0 k s p y x (wrap64 (n + wrap64 (rd x (i : Int) * t))) (wrap64 ((i : Int) + 1))) (refstride_ev s i hlt h hp1 hb) ?_)
    · simp only [fluxionlaw06_ShapeBack.l0]; rw [if_pos (by omega), if_pos (by omega), if_pos (by omega)]
    · rw [wrap_id (x := rd x (i : Int) * pr (s.drop (i + 1))) (by omega) (by omega), wrap_id (by omega) (by omega), wrap_id (by omega) (by omega)]
      exact ih (i + 1) (n + rd x (i : Int) * pr (s.drop (i + 1))) (by omega) (by omega) (by omega) (by omega) hrange

theorem inB_range : ∀ (s x : List Int), inB s x = true → ∀ t : Nat, t < s.length → 0 ≤ rd x (t : Int) ∧ rd x (t : Int) < rd s (t : Int)
  | [], _, _, t, ht => by simp at ht
  | _ :: _, [], h, _, _ => by simp [inB] at h
  | d :: s, i :: x, h, t, ht => by
    simp only [inB, Bool.and_eq_true, decide_eq_true_eq] at h
    have hl := inB_length s x h.2
    cases t with
    | zero => simpa [rd] using h.1
    | succ t =>
      have := inB_range s x h.2 t (by simpa using ht)
      rw [rd_nat _ _ (by simp at ht; omega), rd_nat _ _ (by simpa using ht)] at this
      rw [rd_nat _ _ (by simp at ht ⊢; omega), rd_nat _ _ ht]; simpa using this

theorem ShapeBack : fluxionlaw06_ShapeBack.Pure := by
  intro s p y _ hs _ hpw _ hy _
  have hp : -9223372036854775808 ≤ p ∧ p ≤ 9223372036854775807 := by
    simp [Lit.wf, IntKind.min, IntKind.max, IntKind.signed, IntKind.bits] at hpw; omega
  refine Ev.rounds (g := fun k => fluxionlaw06_ShapeBack.f k s p y) ?_
  have hk : Ev (fun k => (fluxionlaw06_known.f k).bind fun t => some t) true := Ev.bind (f := fun _ t => some t) known_ev (Ev.now _)
  have hmayb := refmay_ev s (by omega)
  have hbad : ∀ (l : List Int) (e : Int), (l, e) = ([], if mayS s = 0 then 21 else mayS s) → Ev (fun k => fluxionlaw06_ShapeBack.j0 k s p y l e true) true := by
    intro l e he
    obtain ⟨rfl, rfl⟩ := Prod.mk.inj he
    refine Ev.step (f := fun k => (fluxionref06_May.f k s).bind fun t => if t = 0 then (if (if mayS s = 0 then 21 else mayS s) = 21 then (if (([] : List Int).length : Int) = 0 then (fluxionlaw06_known.f k).bind fun t2 => some t2 else some false) else some false) else if (if mayS s = 0 then 21 else mayS s) = t then (if (([] : List Int).length : Int) = 0 then (fluxionlaw06_known.f k).bind fun t2 => some t2 else some false) else some false) (fun k => by simp only [fluxionlaw06_ShapeBack.j0, if_true]) (Ev.bind hmayb ?_)
    by_cases h0 : mayS s = 0
    · simp only [h0, if_true, List.length_nil, Int.natCast_zero]; exact hk
    · simp only [h0, if_false, List.length_nil, Int.natCast_zero, if_true]; exact hk
  refine Ev.bind (index_ev s p (by omega) (by omega)) ?_
  refine Ev.bind hmayb ?_
  unfold ixS
  by_cases h0 : mayS s = 0
  · obtain ⟨h, hp1, hb⟩ := may_ok h0
    simp only [h0, if_true]
    by_cases hc : 0 ≤ p ∧ p < pr s
    · rw [if_pos hc]
      simp only [show ¬ p < 0 by omega, if_false]
      have hcount := refcount_ev s (by omega)
      rw [if_pos h0] at hcount
      refine Ev.bind hcount ?_
      rw [show decide (p ≥ pr s) = false by simp; omega]
      have hin := offR_digR s.reverse p (by simpa using hp1) hc.1 (by rw [pr_reverse]; exact hc.2)
      have ex : (ixOf s p).reverse = digR s.reverse p := by simp [ixOf]
      have hoff : offS s (ixOf s p) = (p, 0) := by
        unfold offS; rw [if_pos h0, if_pos (ixOf_length s p)]; unfold offOf
        rw [ex, if_pos hin.2, hin.1]
      have hinx : inB s.reverse (ixOf s p).reverse = true := by rw [ex]; exact hin.2
      have hinp : inB s (ixOf s p) = true := by
        have hl := ixOf_length s p
        have gen : ∀ (a b : List Int), a.length = b.length → inB a.reverse b.reverse = inB a b := by
          intro a
          induction a with
          | nil => intro b hb; cases b with
            | nil => rfl
            | cons _ _ => simp at hb
          | cons d a ih => intro b hb; cases b with
            | nil => simp at hb
            | cons c b =>
              rw [List.reverse_cons, List.reverse_cons, inB_append _ _ _ _ (by simp at hb ⊢; exact hb), ih b (by simpa using hb)]
              simp [inB, Bool.and_comm]
        rw [← gen s (ixOf s p) hl.symm]; exact hinx
      have hloop := back_loop s (ixOf s p) p y h0 (ixOf_length s p) hinx (by rw [ex]; exact hin.1) (by omega) s.length 0 0 (by omega) (by omega) (by omega) (by rw [List.drop_zero, List.drop_zero, Int.zero_add, sumS_off _ _ (ixOf_length s p).symm, ex]; exact hin.1) (inB_range _ _ hinp)
      have hj1 : Ev (fun k => fluxionlaw06_ShapeBack.j1 k s p y (ixOf s p) false) true := by
        refine Ev.step (fun k => ?_) hloop
        simp only [fluxionlaw06_ShapeBack.j1, Bool.false_eq_true, if_false]; rfl
      refine Ev.step (f := fun k => (shape_Offset.f k s (ixOf s p)).bind fun b => if (0 : Int) = 0 then (if b.2 = 0 then (if b.1 = p then fluxionlaw06_ShapeBack.j1 k s p y (ixOf s p) (((ixOf s p).length : Int) != (s.length : Int)) else fluxionlaw06_ShapeBack.j1 k s p y (ixOf s p) true) else fluxionlaw06_ShapeBack.j1 k s p y (ixOf s p) true) else fluxionlaw06_ShapeBack.j1 k s p y (ixOf s p) true) (fun k => by simp only [fluxionlaw06_ShapeBack.j0, Bool.false_eq_true, if_false]) (Ev.bind (offset_ev s (ixOf s p) (by omega)) ?_)
      rw [hoff, ixOf_length]
      simp only [if_true, bne_self_eq_false]
      exact hj1
    · rw [if_neg hc]
      have hj0 := hbad [] 21 (by rw [if_pos h0])
      by_cases hneg : p < 0
      · simp only [hneg, if_true]; exact hj0
      · simp only [hneg, if_false]
        have hcount := refcount_ev s (by omega)
        rw [if_pos h0] at hcount
        refine Ev.bind hcount ?_
        rw [show decide (p ≥ pr s) = true by simp; omega]
        exact hj0
  · simp only [h0, if_false]
    exact hbad [] (mayS s) (by rw [if_neg h0])
end Go.Proofs.Ytfkohjngogjmkaa.Pure
