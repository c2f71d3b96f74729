/- Plain laws on the Lean functions of chapter 06: Fits and Grown, theirs and the reference's. No condition beyond those written. -/
import Derived.Test.YtfkohjngogjmkaaA13
import Derived.Test.YtfkohjngogjmkaaA14
import Derived.Test.YtfkohjngogjmkaaA15
import Derived.Test.YtfkohjngogjmkaaA16
import Derived.Test.YtfkohjngogjmkaaA17
import Derived.Test.YtfkohjngogjmkaaPu1
namespace Go.Proofs.Ytfkohjngogjmkaa.Print
open Go.RowKit Go.Proofs.YtfkohjngogjmkaaW.PrintWords Go.Proofs.YtfkohjngogjmkaaW.PrintLast

/-- A dimension fits, at place i of the first shape. -/
def FitAt (f t : List Int) (i : Nat) : Prop := rd f (i : Int) = 1 ∨ rd f (i : Int) = rd t ((t.length - f.length + i : Nat) : Int)
instance (f t : List Int) (i : Nat) : Decidable (FitAt f t i) := by unfold FitAt; infer_instance
/-- A shape's dimensions fit another one's. -/
def Fit (f t : List Int) : Prop := f.length ≤ t.length ∧ ∀ i, i < f.length → FitAt f t i
instance (f t : List Int) : Decidable (Fit f t) := by unfold Fit; infer_instance
def fitsS (f t : List Int) : Int := if mayS f = 0 then (if mayS t = 0 then (if Fit f t then 0 else 13) else mayS t) else mayS f

theorem fits_l1 (f t : List Int) (hf : f.length ≤ 4) (ht : t.length ≤ 4) (hl : f.length ≤ t.length) : ∀ (m : Nat) (i : Nat), f.length - i = m → i ≤ f.length → (∀ j, j < i → FitAt f t j) →
    Ev (fun k => shape_Fits.l1 k t ((t.length : Int) - (f.length : Int)) f (f.length : Int) (i : Int)) (if Fit f t then 0 else 13)
  | 0, i, hm, hi, hp => by
    have e : i = f.length := by omega
    subst e
    have hF : Fit f t := ⟨hl, hp⟩
    rw [if_pos hF]
    refine Ev.step (f := fun _ => some 0) (fun k => ?_) (Ev.now _)
    simp only [shape_Fits.l1]; rw [if_neg (by omega)]
  | m + 1, i, hm, hi, hp => by
    have hlt : i < f.length := by omega
    have hw : wrap64 ((t.length : Int) - (f.length : Int) + (i : Int)) = ((t.length - f.length + i : Nat) : Int) := by rw [wrap_id (by omega) (by omega)]; omega
    have hw1 : wrap64 ((i : Int) + 1) = ((i + 1 : Nat) : Int) := by rw [wrap_id (by omega) (by omega)]; rfl
    by_cases hc : FitAt f t i
    · have ih := fits_l1 f t hf ht hl m (i + 1) (by omega) (by omega) (by
        intro j hj
        by_cases e : j = i
        · rw [e]; exact hc
        · exact hp j (by omega))
      refine Ev.step (fun k => ?_) ih
      simp only [shape_Fits.l1]; rw [if_pos (by omega), if_pos (by omega), if_pos (by omega), hw, hw1]
      by_cases h1 : rd f (i : Int) = 1
      · rw [if_pos h1]
      · rw [if_neg h1, if_pos (by omega), if_pos (by omega), if_pos (hc.resolve_left h1)]
    · have hF : ¬ Fit f t := fun h => hc (h.2 i hlt)
      rw [if_neg hF]
      refine Ev.step (f := fun _ => some 13) (fun k => ?_) (Ev.now _)
      simp only [shape_Fits.l1]; rw [if_pos (by omega), if_pos (by omega), if_pos (by omega), hw, if_neg (fun h => hc (Or.inl h)), if_pos (by omega), if_pos (by omega), if_neg (fun h => hc (Or.inr h))]

theorem fits_ev (f t : List Int) (hf : f.length ≤ 4611686018427387904) (ht : t.length ≤ 4611686018427387904) : Ev (fun k => shape_Fits.f k f t) (fitsS f t) := by
  have last : mayS f = 0 → mayS t = 0 → Ev (fun k => shape_Fits.l0 k f t [f, t] 2 2) (if Fit f t then 0 else 13) := by
    intro h1 h2
    obtain ⟨a1, a2, a3⟩ := may_ok h1
    obtain ⟨b1, b2, b3⟩ := may_ok h2
    have hw : wrap64 ((t.length : Int) - (f.length : Int)) = (t.length : Int) - (f.length : Int) := wrap_id (by omega) (by omega)
    by_cases hl : f.length ≤ t.length
    · refine Ev.step (fun k => ?_) (fits_l1 f t a1 b1 hl f.length 0 (by omega) (by omega) (fun j h => absurd h (by omega)))
      simp only [shape_Fits.l0]; rw [if_neg (by omega), hw, if_neg (by omega)]; rfl
    · rw [if_neg (fun h => hl h.1)]
      refine Ev.step (f := fun _ => some 13) (fun k => ?_) (Ev.now _)
      simp only [shape_Fits.l0]; rw [if_neg (by omega), hw, if_pos (by omega)]
  have second : mayS f = 0 → Ev (fun k => shape_Fits.l0 k f t [f, t] 2 1) (if mayS t = 0 then (if Fit f t then 0 else 13) else mayS t) := by
    intro h1
    refine Ev.step (f := fun k => (shape_May.f k t).bind fun r => if r = 0 then shape_Fits.l0 k f t [f, t] 2 2 else some r) (fun k => ?_) (Ev.bind (may_ev t ht) ?_)
    · simp only [shape_Fits.l0]; rw [if_pos (by omega), if_pos (by omega), if_pos (by simp), show rd_L9 [f, t] 1 = t from rfl, wrap_id (x := 1 + 1) (by omega) (by omega)]; rfl
    · by_cases h2 : mayS t = 0
      · simp only [h2, if_true]; exact last h1 h2
      · simp only [h2, if_false]; exact Ev.now _
  refine Ev.congr (f := fun k => shape_Fits.l0 k f t [f, t] 2 0) (fun k => rfl) ?_
  refine Ev.step (f := fun k => (shape_May.f k f).bind fun r => if r = 0 then shape_Fits.l0 k f t [f, t] 2 1 else some r) (fun k => ?_) (Ev.bind (may_ev f hf) ?_)
  · simp only [shape_Fits.l0]; rw [if_pos (by omega), if_pos (by omega), if_pos (by simp), show rd_L9 [f, t] 0 = f from rfl, wrap_id (x := 0 + 1) (by omega) (by omega)]; rfl
  · unfold fitsS
    by_cases h1 : mayS f = 0
    · simp only [h1, if_true]; exact second h1
    · simp only [h1, if_false]; exact Ev.now _

/-- The axes that are grown, from place i on. -/
def grownR (f : List Int) (more : Nat) : Nat → List Int → List Int
  | _, [] => []
  | i, d :: t => if more ≤ i ∧ rd f ((i - more : Nat) : Int) = d then grownR f more (i + 1) t else (i : Int) :: grownR f more (i + 1) t
def grownS (f t : List Int) : List Int := if fitsS f t = 0 then grownR f (t.length - f.length) 0 t else []

theorem fitsS_ok {f t : List Int} (h : fitsS f t = 0) : mayS f = 0 ∧ mayS t = 0 ∧ Fit f t := by
  unfold fitsS at h
  split at h
  · split at h
    · split at h
      · rename_i a b c; exact ⟨a, b, c⟩
      · omega
    · rename_i h1; exact absurd h h1
  · rename_i h1; exact absurd h h1

theorem grown_loop (f t : List Int) (ht : t.length ≤ 4) (hl : f.length ≤ t.length) : ∀ (m : Nat) (i : Nat) (acc : List Int), t.length - i = m → i ≤ t.length → acc.length ≤ i →
    Ev (fun k => shape_Grown.l0 k f acc ((t.length : Int) - (f.length : Int)) t (t.length : Int) (i : Int)) (acc ++ grownR f (t.length - f.length) i (t.drop i))
  | 0, i, acc, hm, hi, ha => by
    have e : i = t.length := by omega
    rw [e, List.drop_length]; simp only [grownR, List.append_nil]
    refine Ev.step (f := fun _ => some acc) (fun k => ?_) (Ev.now _)
    simp only [shape_Grown.l0]; rw [if_neg (by omega)]
  | m + 1, i, acc, hm, hi, ha => by
    have hlt : i < t.length := by omega
    have hw1 : wrap64 ((i : Int) + 1) = ((i + 1 : Nat) : Int) := by rw [wrap_id (by omega) (by omega)]; rfl
    rw [drop_cons t i hlt, grownR]
    by_cases hc : t.length - f.length ≤ i
    · have hw : wrap64 ((i : Int) - ((t.length : Int) - (f.length : Int))) = ((i - (t.length - f.length) : Nat) : Int) := by rw [wrap_id (by omega) (by omega)]; omega
      by_cases h2 : rd f ((i - (t.length - f.length) : Nat) : Int) = rd t (i : Int)
      · rw [if_pos ⟨hc, h2⟩]
        have ih := grown_loop f t ht hl m (i + 1) acc (by omega) (by omega) (by omega)
        refine Ev.step (fun k => ?_) ih
        simp only [shape_Grown.l0]; rw [if_pos (by omega), if_pos (by omega), if_pos (by omega), if_pos (by omega), hw, if_pos (by omega), if_pos (by omega), if_pos h2, hw1]
      · rw [if_neg (fun h => h2 h.2)]
        have ih := grown_loop f t ht hl m (i + 1) (acc ++ [(i : Int)]) (by omega) (by omega) (by simp; omega)
        refine Ev.step (fun k => ?_) (by simpa using ih)
        simp only [shape_Grown.l0]; rw [if_pos (by omega), if_pos (by omega), if_pos (by omega), if_pos (by omega), hw, if_pos (by omega), if_pos (by omega), if_neg h2, if_pos (by omega), hw1]; rfl
    · rw [if_neg (fun h => hc h.1)]
      have ih := grown_loop f t ht hl m (i + 1) (acc ++ [(i : Int)]) (by omega) (by omega) (by simp; omega)
      refine Ev.step (fun k => ?_) (by simpa using ih)
      simp only [shape_Grown.l0]; rw [if_pos (by omega), if_pos (by omega), if_pos (by omega), if_neg (by omega), if_pos (by omega), hw1]; rfl

theorem grown_ev (f t : List Int) (hf : f.length ≤ 4611686018427387904) (ht : t.length ≤ 4611686018427387904) : Ev (fun k => shape_Grown.f k f t) (grownS f t) := by
  refine Ev.congr (fun k => ?_) (Ev.bind (f := fun k r => if r = 0 then shape_Grown.l0 k f ([] : List Int) (wrap64 ((t.length : Int) - (f.length : Int))) t (t.length : Int) 0 else some []) (fits_ev f t hf ht) ?_)
  · unfold shape_Grown.f; rfl
  · unfold grownS
    by_cases h : fitsS f t = 0
    · obtain ⟨a, b, c⟩ := fitsS_ok h
      have h1 := (may_ok a).1
      have h2 := (may_ok b).1
      simp only [h, if_true]
      rw [wrap_id (by omega) (by omega)]
      have := grown_loop f t h2 c.1 t.length 0 [] (by omega) (by omega) (by simp)
      simpa using this
    · simp only [h, if_false]; exact Ev.now _

theorem back_ev (s : List Int) (k : Nat) (hs : s.length ≤ 4) (h1 : 1 ≤ k) (hk : k ≤ 5) : fluxionref06_Back.f s (k : Int) = some (if k ≤ s.length then rd s ((s.length - k : Nat) : Int) else 0) := by
  unfold fluxionref06_Back.f
  by_cases h : k ≤ s.length
  · have hw : wrap64 ((s.length : Int) - (k : Int)) = ((s.length - k : Nat) : Int) := by rw [wrap_id (by omega) (by omega)]; omega
    rw [if_neg (by omega), hw, if_pos (by omega), if_pos (by omega), if_pos h]
  · rw [if_pos (by omega), if_neg h]

theorem rd_pos {s : List Int} (h : ∀ d ∈ s, 1 ≤ d) (i : Nat) (hi : i < s.length) : 1 ≤ rd s (i : Int) := by
  rw [rd_nat s i hi]; exact h _ (List.getElem_mem hi)

theorem reffits_loop (f t : List Int) (hf : f.length ≤ 4) (ht : t.length ≤ 4) (hft : f.length ≤ t.length) (tp : ∀ d ∈ t, 1 ≤ d) : ∀ (m : Nat) (j : Nat), f.length - j = m → j ≤ f.length → (∀ i, i < f.length → f.length - j ≤ i → FitAt f t i) →
    Ev (fun k => fluxionref06_Fits.l0 k f t ((j + 1 : Nat) : Int)) (if Fit f t then 0 else 13)
  | 0, j, hm, hj, hp => by
    have hF : Fit f t := ⟨by omega, fun i hi => hp i hi (by omega)⟩
    rw [if_pos hF]
    refine Ev.step (f := fun _ => some 0) (fun k => ?_) (Ev.now _)
    simp only [fluxionref06_Fits.l0]; rw [if_neg (by omega)]
  | m + 1, j, hm, hj, hp => by
    have hlt : j < f.length := by omega
    have hw1 : wrap64 (((j + 1 : Nat) : Int) + 1) = ((j + 1 + 1 : Nat) : Int) := by rw [wrap_id (by omega) (by omega)]; rfl
    have e1 := back_ev t (j + 1) ht (by omega) (by omega)
    have e2 := back_ev f (j + 1) hf (by omega) (by omega)
    rw [if_pos (by omega)] at e1
    rw [if_pos (by omega)] at e2
    have hpos := rd_pos tp (t.length - (j + 1)) (by omega)
    have hat : FitAt f t (f.length - (j + 1)) ↔ (rd f ((f.length - (j + 1) : Nat) : Int) = 1 ∨ rd f ((f.length - (j + 1) : Nat) : Int) = rd t ((t.length - (j + 1) : Nat) : Int)) := by
      unfold FitAt
      rw [show t.length - f.length + (f.length - (j + 1)) = t.length - (j + 1) by omega]
    by_cases hc : FitAt f t (f.length - (j + 1))
    · have ih := reffits_loop f t hf ht hft tp m (j + 1) (by omega) (by omega) (by
        intro i hi h2
        by_cases e : i = f.length - (j + 1)
        · rw [e]; exact hc
        · exact hp i hi (by omega))
      rw [hat] at hc
      refine Ev.step (fun k => ?_) ih
      simp only [fluxionref06_Fits.l0]; rw [if_pos (by omega), e1, Option.bind_some, if_neg (by omega), e2, Option.bind_some, hw1]
      by_cases h1 : rd f ((f.length - (j + 1) : Nat) : Int) = 1
      · rw [if_pos h1]
      · rw [if_neg h1, if_pos (hc.resolve_left h1)]
    · have hF : ¬ Fit f t := fun h => hc (h.2 _ (by omega))
      rw [hat] at hc
      rw [if_neg hF]
      refine Ev.step (f := fun _ => some 13) (fun k => ?_) (Ev.now _)
      simp only [fluxionref06_Fits.l0]; rw [if_pos (by omega), e1, Option.bind_some, if_neg (by omega), e2, Option.bind_some, if_neg (fun h => hc (Or.inl h)), if_neg (fun h => hc (Or.inr h))]

theorem reffits_long (f t : List Int) (hf : f.length ≤ 4) (ht : t.length ≤ 4) (hft : t.length < f.length) : ∀ (m : Nat) (j : Nat), t.length - j = m → j ≤ t.length →
    Ev (fun k => fluxionref06_Fits.l0 k f t ((j + 1 : Nat) : Int)) 13
  | m, j, hm, hj => by
    have hw1 : wrap64 (((j + 1 : Nat) : Int) + 1) = ((j + 1 + 1 : Nat) : Int) := by rw [wrap_id (by omega) (by omega)]; rfl
    have e1 := back_ev t (j + 1) ht (by omega) (by omega)
    have e2 := back_ev f (j + 1) hf (by omega) (by omega)
    rw [if_pos (by omega)] at e2
    by_cases hz : (if j + 1 ≤ t.length then rd t ((t.length - (j + 1) : Nat) : Int) else 0) = 0
    · rw [hz] at e1
      refine Ev.step (f := fun _ => some 13) (fun k => ?_) (Ev.now _)
      simp only [fluxionref06_Fits.l0]; rw [if_pos (by omega), e1, Option.bind_some, if_pos rfl]
    · have hjt : j + 1 ≤ t.length := by
        by_cases h : j + 1 ≤ t.length
        · exact h
        · rw [if_neg h] at hz; exact absurd rfl hz
      rw [if_pos hjt] at hz e1
      match m, hm with
      | 0, hm => omega
      | m + 1, hm =>
        have ih := reffits_long f t hf ht hft m (j + 1) (by omega) (by omega)
        by_cases hc : rd f ((f.length - (j + 1) : Nat) : Int) = 1 ∨ rd f ((f.length - (j + 1) : Nat) : Int) = rd t ((t.length - (j + 1) : Nat) : Int)
        · refine Ev.step (fun k => ?_) ih
          simp only [fluxionref06_Fits.l0]; rw [if_pos (by omega), e1, Option.bind_some, if_neg hz, e2, Option.bind_some, hw1]
          by_cases h1 : rd f ((f.length - (j + 1) : Nat) : Int) = 1
          · rw [if_pos h1]
          · rw [if_neg h1, if_pos (hc.resolve_left h1)]
        · refine Ev.step (f := fun _ => some 13) (fun k => ?_) (Ev.now _)
          simp only [fluxionref06_Fits.l0]; rw [if_pos (by omega), e1, Option.bind_some, if_neg hz, e2, Option.bind_some, if_neg (fun h => hc (Or.inl h)), if_neg (fun h => hc (Or.inr h))]

theorem reffits_ev (f t : List Int) (hf : f.length ≤ 4611686018427387904) (ht : t.length ≤ 4611686018427387904) : Ev (fun k => fluxionref06_Fits.f k f t) (fitsS f t) := by
  refine Ev.congr (fun k => ?_) (Ev.bind (f := fun k r => if r = 0 then ((fluxionref06_May.f k t).bind fun q => if q = 0 then fluxionref06_Fits.l0 k f t 1 else some q) else some r) (refmay_ev f hf) ?_)
  · unfold fluxionref06_Fits.f; rfl
  · unfold fitsS
    by_cases h : mayS f = 0
    · simp only [h, if_true]
      refine Ev.bind (f := fun k q => if q = 0 then fluxionref06_Fits.l0 k f t 1 else some q) (refmay_ev t ht) ?_
      by_cases h2 : mayS t = 0
      · simp only [h2, if_true]
        obtain ⟨a1, a2, a3⟩ := may_ok h
        obtain ⟨b1, b2, b3⟩ := may_ok h2
        by_cases hl : f.length ≤ t.length
        · exact reffits_loop f t a1 b1 hl b2 f.length 0 (by omega) (by omega) (fun i hi h => absurd h (by omega))
        · rw [if_neg (fun h => hl h.1)]
          exact reffits_long f t a1 b1 (by omega) t.length 0 (by omega) (by omega)
      · simp only [h2, if_false]; exact Ev.now _
    · simp only [h, if_false]; exact Ev.now _

theorem refgrown_loop (f t : List Int) (ht : t.length ≤ 4) (hl : f.length ≤ t.length) (tp : ∀ d ∈ t, 1 ≤ d) : ∀ (m : Nat) (i : Nat) (acc : List Int), t.length - i = m → i ≤ t.length → acc.length ≤ i →
    Ev (fun k => fluxionref06_Grown.l0 k f t acc ((t.length - i : Nat) : Int)) (acc ++ grownR f (t.length - f.length) i (t.drop i))
  | 0, i, acc, hm, hi, ha => by
    have e : i = t.length := by omega
    rw [e, List.drop_length]; simp only [grownR, List.append_nil]
    refine Ev.step (f := fun _ => some acc) (fun k => ?_) (Ev.now _)
    simp only [fluxionref06_Grown.l0]; rw [if_neg (by omega)]
  | m + 1, i, acc, hm, hi, ha => by
    have hlt : i < t.length := by omega
    have hw1 : wrap64 (((t.length - i : Nat) : Int) - 1) = ((t.length - (i + 1) : Nat) : Int) := by rw [wrap_id (by omega) (by omega)]; omega
    have hw2 : wrap64 ((t.length : Int) - ((t.length - i : Nat) : Int)) = (i : Int) := by rw [wrap_id (by omega) (by omega)]; omega
    have e1 := back_ev t (t.length - i) ht (by omega) (by omega)
    have e2 := back_ev f (t.length - i) (by omega) (by omega) (by omega)
    rw [if_pos (by omega), show t.length - (t.length - i) = i by omega] at e1
    have hpos := rd_pos tp i hlt
    rw [drop_cons t i hlt, grownR]
    by_cases hc : t.length - f.length ≤ i ∧ rd f ((i - (t.length - f.length) : Nat) : Int) = rd t (i : Int)
    · rw [if_pos hc]
      rw [if_pos (by omega), show f.length - (t.length - i) = i - (t.length - f.length) by omega, hc.2] at e2
      have ih := refgrown_loop f t ht hl tp m (i + 1) acc (by omega) (by omega) (by omega)
      refine Ev.step (fun k => ?_) ih
      simp only [fluxionref06_Grown.l0]; rw [if_pos (by omega), e1, e2, Option.bind_some, Option.bind_some, if_pos rfl, hw1]
    · rw [if_neg hc]
      have ih := refgrown_loop f t ht hl tp m (i + 1) (acc ++ [(i : Int)]) (by omega) (by omega) (by simp; omega)
      refine Ev.step (fun k => ?_) (by simpa using ih)
      simp only [fluxionref06_Grown.l0]; rw [if_pos (by omega), e1, e2, Option.bind_some, Option.bind_some, if_neg ?_, if_pos (by omega), hw1, hw2]
      by_cases h3 : t.length - f.length ≤ i
      · rw [if_pos (by omega), show f.length - (t.length - i) = i - (t.length - f.length) by omega]
        exact fun h => hc ⟨h3, h⟩
      · rw [if_neg (by omega)]; omega

theorem refgrown_ev (f t : List Int) (hf : f.length ≤ 4611686018427387904) (ht : t.length ≤ 4611686018427387904) : Ev (fun k => fluxionref06_Grown.f k f t) (grownS f t) := by
  refine Ev.congr (fun k => ?_) (Ev.bind (f := fun k r => if r = 0 then fluxionref06_Grown.l0 k f t ([] : List Int) (t.length : Int) else some []) (reffits_ev f t hf ht) ?_)
  · unfold fluxionref06_Grown.f; rfl
  · unfold grownS
    by_cases h : fitsS f t = 0
    · obtain ⟨a, b, c⟩ := fitsS_ok h
      simp only [h, if_true]
      have := refgrown_loop f t (may_ok b).1 c.1 (may_ok b).2.1 t.length 0 [] (by omega) (by omega) (by simp)
      simpa using this
    · simp only [h, if_false]; exact Ev.now _

theorem grownR_length (f : List Int) (more : Nat) : ∀ (i : Nat) (t : List Int), (grownR f more i t).length ≤ t.length
  | _, [] => by simp [grownR]
  | i, d :: t => by
    have := grownR_length f more (i + 1) t
    rw [grownR]; split
    · simp; omega
    · simp; exact this
theorem grownS_length (f t : List Int) : (grownS f t).length ≤ t.length := by
  unfold grownS; split
  · exact grownR_length ..
  · simp
end Go.Proofs.Ytfkohjngogjmkaa.Print
