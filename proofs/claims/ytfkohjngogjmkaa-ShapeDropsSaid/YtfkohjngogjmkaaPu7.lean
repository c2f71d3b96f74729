/- Plain laws on the Lean functions of chapter 06: Drop and Ones, theirs and the reference's. No condition beyond those written. -/
import Derived.Test.YtfkohjngogjmkaaT3
import Derived.Test.YtfkohjngogjmkaaT5
import Derived.Test.YtfkohjngogjmkaaT2
import Derived.Test.YtfkohjngogjmkaaT4
import Derived.Test.YtfkohjngogjmkaaA27
import Derived.Test.YtfkohjngogjmkaaA26
import Derived.Test.YtfkohjngogjmkaaA20
import Derived.Test.YtfkohjngogjmkaaA21
import Derived.Test.YtfkohjngogjmkaaA22
import Derived.Test.YtfkohjngogjmkaaPu6
namespace Go.Proofs.Ytfkohjngogjmkaa.Print
open Go.RowKit Go.Proofs.YtfkohjngogjmkaaW.PrintWords Go.Proofs.YtfkohjngogjmkaaW.PrintLast

theorem may_of2 {s : List Int} (h : s.length ≤ 4) (hp : ∀ d ∈ s, 1 ≤ d) (hb : pr s ≤ 1024) : mayS s = 0 := by
  unfold mayS
  rw [if_neg (by omega), if_neg, if_neg (by omega)]
  intro ha
  obtain ⟨d, hd, hd1⟩ := List.any_eq_true.1 ha
  have := hp d hd
  simp at hd1; omega

theorem has_loop (l : List Int) (n : Int) (hl : l.length ≤ 4611686018427387904) : ∀ (m : Nat) (i : Nat), l.length - i = m → i ≤ l.length →
    Ev (fun k => fluxionref06_has.l0 k l n (i : Int)) (decide (n ∈ l.drop i))
  | 0, i, hm, hi => by
    have e : i = l.length := by omega
    refine Ev.step (f := fun _ => some false) (fun k => ?_) ?_
    · simp only [fluxionref06_has.l0]; rw [if_neg (by omega)]
    · rw [e, List.drop_length]; simp; exact Ev.now _
  | m + 1, i, hm, hi => by
    have hlt : i < l.length := by omega
    rw [drop_cons l i hlt]
    by_cases hc : rd l (i : Int) = n
    · refine Ev.step (f := fun _ => some true) (fun k => ?_) ?_
      · simp only [fluxionref06_has.l0]; rw [if_pos (by omega), if_pos (by omega), if_pos hc]
      · simp only [hc, List.mem_cons, true_or, decide_true]; exact Ev.now _
    · have ih := has_loop l n hl m (i + 1) (by omega) (by omega)
      refine Ev.step (fun k => ?_) (by simp only [List.mem_cons, show ¬ n = rd l (i : Int) from fun h => hc h.symm, false_or]; exact ih)
      simp only [fluxionref06_has.l0]; rw [if_pos (by omega), if_pos (by omega), if_neg hc, wrap_id (by omega) (by omega)]; rfl
theorem has_ev (l : List Int) (n : Int) (hl : l.length ≤ 4611686018427387904) : Ev (fun k => fluxionref06_has.f k l n) (decide (n ∈ l)) :=
  has_loop l n hl l.length 0 (by omega) (by omega)

theorem slindex_loop (l : List Int) (n : Int) (hl : l.length ≤ 4611686018427387904) : ∀ (m : Nat) (i : Nat), l.length - i = m → i ≤ l.length →
    ∃ r : Int, Ev (fun k => slices_Index_int_int.l0 k l n (l.length : Int) (i : Int)) r ∧ (r ≥ 0 ↔ n ∈ l.drop i)
  | 0, i, hm, hi => by
    have e : i = l.length := by omega
    refine ⟨-1, Ev.step (f := fun _ => some (-1)) (fun k => ?_) (Ev.now _), ?_⟩
    · simp only [slices_Index_int_int.l0]; rw [if_neg (by omega)]
    · rw [e, List.drop_length]; simp
  | m + 1, i, hm, hi => by
    have hlt : i < l.length := by omega
    rw [drop_cons l i hlt]
    by_cases hc : n = rd l (i : Int)
    · refine ⟨(i : Int), Ev.step (f := fun _ => some (i : Int)) (fun k => ?_) (Ev.now _), ?_⟩
      · simp only [slices_Index_int_int.l0]; rw [if_pos (by omega), if_pos (by omega), if_pos (by omega), if_pos hc]
      · simp only [← hc, List.mem_cons, true_or, iff_true]; omega
    · obtain ⟨r, ih, ir⟩ := slindex_loop l n hl m (i + 1) (by omega) (by omega)
      refine ⟨r, Ev.step (fun k => ?_) ih, by simp only [List.mem_cons, hc, false_or]; exact ir⟩
      simp only [slices_Index_int_int.l0]; rw [if_pos (by omega), if_pos (by omega), if_pos (by omega), if_neg hc, wrap_id (by omega) (by omega)]; rfl
theorem contains_ev (l : List Int) (n : Int) (hl : l.length ≤ 4611686018427387904) : Ev (fun k => slices_Contains_int_int.f k l n) (decide (n ∈ l)) := by
  obtain ⟨r, h, hr⟩ := slindex_loop l n hl l.length 0 (by omega) (by omega)
  refine Ev.bind (f := fun _ t => some (decide (t ≥ 0))) h ?_
  simp only [List.drop_zero] at hr
  simp only [hr]; exact Ev.now _

/-- A list from place i on without the named places, and with 1 in them. -/
def dropR (ax : List Int) : Nat → List Int → List Int
  | _, [] => []
  | i, d :: s => if (i : Int) ∈ ax then dropR ax (i + 1) s else d :: dropR ax (i + 1) s
def onesR (ax : List Int) : Nat → List Int → List Int
  | _, [] => []
  | i, d :: s => (if (i : Int) ∈ ax then 1 else d) :: onesR ax (i + 1) s

theorem onesR_length (ax : List Int) : ∀ (i : Nat) (s : List Int), (onesR ax i s).length = s.length
  | _, [] => rfl
  | i, d :: s => by rw [onesR, List.length_cons, onesR_length ax (i + 1) s, List.length_cons]
theorem dropR_length (ax : List Int) : ∀ (i : Nat) (s : List Int), (dropR ax i s).length ≤ s.length
  | _, [] => by simp [dropR]
  | i, d :: s => by
    have := dropR_length ax (i + 1) s
    rw [dropR]; split
    · simp; omega
    · simp; exact this

theorem turned45_loop (s ax : List Int) (hs : s.length ≤ 1000) (ha : ax.length ≤ 4611686018427387904) : ∀ (m : Nat) (i : Nat) (acc : List Int), s.length - i = m → i ≤ s.length → acc.length ≤ i →
    Ev (fun k => shape_turned_45.l0 k ax acc s (s.length : Int) (i : Int)) (acc ++ dropR ax i (s.drop i))
  | 0, i, acc, hm, hi, hacc => by
    have e : i = s.length := by omega
    rw [e, List.drop_length]; simp only [dropR, List.append_nil]
    refine Ev.step (f := fun _ => some acc) (fun k => ?_) (Ev.now _)
    simp only [shape_turned_45.l0]; rw [if_neg (by omega)]
  | m + 1, i, acc, hm, hi, hacc => by
    have hlt : i < s.length := by omega
    have hw1 : wrap64 ((i : Int) + 1) = ((i + 1 : Nat) : Int) := by rw [wrap_id (by omega) (by omega)]; rfl
    rw [drop_cons s i hlt, dropR]
    refine Ev.step (f := fun k => (slices_Contains_int_int.f k ax (i : Int)).bind fun t => if t = true then shape_turned_45.l0 k ax acc s (s.length : Int) ((i + 1 : Nat) : Int) else shape_turned_45.l0 k ax (acc ++ [rd s (i : Int)]) s (s.length : Int) ((i + 1 : Nat) : Int)) (fun k => ?_) (Ev.bind (contains_ev ax (i : Int) ha) ?_)
    · simp only [shape_turned_45.l0]; rw [if_pos (by omega), if_pos (by omega), if_pos (by omega), hw1, if_pos (by omega)]; rfl
    · by_cases hc : (i : Int) ∈ ax
      · simp only [hc, decide_true, if_true]
        exact turned45_loop s ax hs ha m (i + 1) acc (by omega) (by omega) (by omega)
      · simp only [hc, decide_false, Bool.false_eq_true, if_false]
        have ih := turned45_loop s ax hs ha m (i + 1) (acc ++ [rd s (i : Int)]) (by omega) (by omega) (by simp; omega)
        simpa using ih

theorem turned46_loop (s ax : List Int) (hs : s.length ≤ 1000) (ha : ax.length ≤ 4611686018427387904) : ∀ (m : Nat) (i : Nat) (acc : List Int), s.length - i = m → i ≤ s.length → acc.length ≤ i →
    Ev (fun k => shape_turned_46.l0 k ax acc s (s.length : Int) (i : Int)) (acc ++ onesR ax i (s.drop i))
  | 0, i, acc, hm, hi, hacc => by
    have e : i = s.length := by omega
    rw [e, List.drop_length]; simp only [onesR, List.append_nil]
    refine Ev.step (f := fun _ => some acc) (fun k => ?_) (Ev.now _)
    simp only [shape_turned_46.l0]; rw [if_neg (by omega)]
  | m + 1, i, acc, hm, hi, hacc => by
    have hlt : i < s.length := by omega
    have hw1 : wrap64 ((i : Int) + 1) = ((i + 1 : Nat) : Int) := by rw [wrap_id (by omega) (by omega)]; rfl
    rw [drop_cons s i hlt, onesR]
    refine Ev.step (f := fun k => (slices_Contains_int_int.f k ax (i : Int)).bind fun t => if t = true then shape_turned_46.l0 k ax (acc ++ [1]) s (s.length : Int) ((i + 1 : Nat) : Int) else shape_turned_46.l0 k ax (acc ++ [rd s (i : Int)]) s (s.length : Int) ((i + 1 : Nat) : Int)) (fun k => ?_) (Ev.bind (contains_ev ax (i : Int) ha) ?_)
    · simp only [shape_turned_46.l0, shape_Ones_1.f, if_pos (show acc.length < 17592186044416 by omega)]; rw [if_pos (by omega), if_pos (by omega), if_pos (by omega), hw1]; rfl
    · by_cases hc : (i : Int) ∈ ax
      · simp only [hc, decide_true, if_true]
        have ih := turned46_loop s ax hs ha m (i + 1) (acc ++ [1]) (by omega) (by omega) (by simp; omega)
        simpa using ih
      · simp only [hc, decide_false, Bool.false_eq_true, if_false]
        have ih := turned46_loop s ax hs ha m (i + 1) (acc ++ [rd s (i : Int)]) (by omega) (by omega) (by simp; omega)
        simpa using ih

theorem drop_ev (s ax : List Int) (hs : s.length ≤ 1000) (ha : ax.length ≤ 4611686018427387904) : Ev (fun k => shape_Drop.f k s ax) (dropR ax 0 s) :=
  Ev.bind (f := fun _ t => some t) (g := fun k => shape_turned_45.f k s ax ()) (turned45_loop s ax hs ha s.length 0 [] (by omega) (by omega) (by simp)) (Ev.now _)
theorem ones_ev (s ax : List Int) (hs : s.length ≤ 1000) (ha : ax.length ≤ 4611686018427387904) : Ev (fun k => shape_Ones.f k s ax) (onesR ax 0 s) :=
  Ev.bind (f := fun _ t => some t) (g := fun k => shape_turned_46.f k s ax ()) (turned46_loop s ax hs ha s.length 0 [] (by omega) (by omega) (by simp)) (Ev.now _)

theorem refdrop_loop (s ax : List Int) (hs : s.length ≤ 1000) (ha : ax.length ≤ 4611686018427387904) : ∀ (m : Nat) (i : Nat) (acc : List Int), s.length - i = m → i ≤ s.length → acc.length ≤ i →
    Ev (fun k => fluxionref06_Drop.l0 k s ax acc (i : Int)) (acc ++ dropR ax i (s.drop i))
  | 0, i, acc, hm, hi, hacc => by
    have e : i = s.length := by omega
    rw [e, List.drop_length]; simp only [dropR, List.append_nil]
    refine Ev.step (f := fun _ => some acc) (fun k => ?_) (Ev.now _)
    simp only [fluxionref06_Drop.l0]; rw [if_neg (by omega)]
  | m + 1, i, acc, hm, hi, hacc => by
    have hlt : i < s.length := by omega
    have hw1 : wrap64 ((i : Int) + 1) = ((i + 1 : Nat) : Int) := by rw [wrap_id (by omega) (by omega)]; rfl
    rw [drop_cons s i hlt, dropR]
    refine Ev.step (f := fun k => (fluxionref06_has.f k ax (i : Int)).bind fun t => if t = true then fluxionref06_Drop.l0 k s ax acc ((i + 1 : Nat) : Int) else fluxionref06_Drop.l0 k s ax (acc ++ [rd s (i : Int)]) ((i + 1 : Nat) : Int)) (fun k => ?_) (Ev.bind (has_ev ax (i : Int) ha) ?_)
    · simp only [fluxionref06_Drop.l0]; rw [if_pos (by omega), hw1, if_pos (show (0 : Int) ≤ (i : Int) by omega), if_pos (show acc.length < 17592186044416 by omega)]
    · by_cases hc : (i : Int) ∈ ax
      · simp only [hc, decide_true, if_true]
        exact refdrop_loop s ax hs ha m (i + 1) acc (by omega) (by omega) (by omega)
      · simp only [hc, decide_false, Bool.false_eq_true, if_false]
        have ih := refdrop_loop s ax hs ha m (i + 1) (acc ++ [rd s (i : Int)]) (by omega) (by omega) (by simp; omega)
        simpa using ih

theorem refones_loop (s ax : List Int) (hs : s.length ≤ 1000) (ha : ax.length ≤ 4611686018427387904) : ∀ (m : Nat) (i : Nat) (acc : List Int), s.length - i = m → i ≤ s.length → acc.length ≤ i →
    Ev (fun k => fluxionref06_Ones.l0 k s ax acc (i : Int)) (acc ++ onesR ax i (s.drop i))
  | 0, i, acc, hm, hi, hacc => by
    have e : i = s.length := by omega
    rw [e, List.drop_length]; simp only [onesR, List.append_nil]
    refine Ev.step (f := fun _ => some acc) (fun k => ?_) (Ev.now _)
    simp only [fluxionref06_Ones.l0]; rw [if_neg (by omega)]
  | m + 1, i, acc, hm, hi, hacc => by
    have hlt : i < s.length := by omega
    have hw1 : wrap64 ((i : Int) + 1) = ((i + 1 : Nat) : Int) := by rw [wrap_id (by omega) (by omega)]; rfl
    rw [drop_cons s i hlt, onesR]
    refine Ev.step (f := fun k => (fluxionref06_has.f k ax (i : Int)).bind fun t => if t = true then fluxionref06_Ones.l0 k s ax (acc ++ [1]) ((i + 1 : Nat) : Int) else fluxionref06_Ones.l0 k s ax (acc ++ [rd s (i : Int)]) ((i + 1 : Nat) : Int)) (fun k => ?_) (Ev.bind (has_ev ax (i : Int) ha) ?_)
    · simp only [fluxionref06_Ones.l0, if_pos (show acc.length < 17592186044416 by omega)]; rw [if_pos (by omega), hw1, if_pos (show (0 : Int) ≤ (i : Int) by omega)]
    · by_cases hc : (i : Int) ∈ ax
      · simp only [hc, decide_true, if_true]
        have ih := refones_loop s ax hs ha m (i + 1) (acc ++ [1]) (by omega) (by omega) (by simp; omega)
        simpa using ih
      · simp only [hc, decide_false, Bool.false_eq_true, if_false]
        have ih := refones_loop s ax hs ha m (i + 1) (acc ++ [rd s (i : Int)]) (by omega) (by omega) (by simp; omega)
        simpa using ih

theorem refdrop_ev (s ax : List Int) (hs : s.length ≤ 1000) (ha : ax.length ≤ 4611686018427387904) : Ev (fun k => fluxionref06_Drop.f k s ax) (dropR ax 0 s) :=
  refdrop_loop s ax hs ha s.length 0 [] (by omega) (by omega) (by simp)
theorem refones_ev (s ax : List Int) (hs : s.length ≤ 1000) (ha : ax.length ≤ 4611686018427387904) : Ev (fun k => fluxionref06_Ones.f k s ax) (onesR ax 0 s) :=
  refones_loop s ax hs ha s.length 0 [] (by omega) (by omega) (by simp)

theorem pr_ones (ax : List Int) : ∀ (i : Nat) (s : List Int), pr (onesR ax i s) = pr (dropR ax i s)
  | _, [] => rfl
  | i, d :: s => by
    have ih := pr_ones ax (i + 1) s
    rw [onesR, dropR, pr, ih]
    by_cases h : (i : Int) ∈ ax
    · rw [if_pos h, if_pos h, Int.one_mul]
    · rw [if_neg h, if_neg h, pr]
theorem ones_pos (ax : List Int) : ∀ (i : Nat) (s : List Int), (∀ d ∈ s, 1 ≤ d) → (∀ d ∈ onesR ax i s, 1 ≤ d) ∧ (∀ d ∈ dropR ax i s, 1 ≤ d) ∧ pr (onesR ax i s) ≤ pr s
  | _, [], _ => by simp [onesR, dropR, pr]
  | i, d :: s, h => by
    obtain ⟨a, b, c⟩ := ones_pos ax (i + 1) s (fun x hx => h x (List.mem_cons_of_mem _ hx))
    have hd := h d (List.mem_cons_self ..)
    have p1 := pr_pos _ a
    rw [onesR, dropR, pr, pr]
    by_cases hc : (i : Int) ∈ ax
    · rw [if_pos hc, if_pos hc]
      refine ⟨?_, b, ?_⟩
      · intro x hx
        rcases List.mem_cons.1 hx with rfl | hx
        · omega
        · exact a x hx
      · have : 1 * pr s ≤ d * pr s := Int.mul_le_mul_of_nonneg_right hd (by omega)
        omega
    · rw [if_neg hc, if_neg hc]
      refine ⟨?_, ?_, Int.mul_le_mul_of_nonneg_left c (by omega)⟩
      · intro x hx
        rcases List.mem_cons.1 hx with rfl | hx
        · omega
        · exact a x hx
      · intro x hx
        rcases List.mem_cons.1 hx with rfl | hx
        · omega
        · exact b x hx
theorem ones_get (ax : List Int) : ∀ (i : Nat) (s : List Int) (j : Nat), j < s.length → rd (onesR ax i s) (j : Int) = 1 ∨ rd (onesR ax i s) (j : Int) = rd s (j : Int)
  | _, [], j, h => by simp at h
  | i, d :: s, 0, _ => by
    by_cases hc : (i : Int) ∈ ax
    · left; simp [rd, onesR, hc]
    · right; simp [rd, onesR, hc]
  | i, d :: s, j + 1, h => by
    have h' : j < s.length := by simpa using h
    have := ones_get ax (i + 1) s j h'
    rw [rd_nat _ _ (by rw [onesR_length]; exact h), rd_nat _ _ h]
    rw [rd_nat _ _ (by rw [onesR_length]; exact h'), rd_nat _ _ h'] at this
    simpa [onesR] using this
end Go.Proofs.Ytfkohjngogjmkaa.Print
