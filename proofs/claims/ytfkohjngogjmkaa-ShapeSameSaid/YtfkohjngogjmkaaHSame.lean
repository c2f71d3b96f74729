/- The Lean function with the answers of the statement ShapeSame, and the proof, by hand, that the Go code comes to it: what shape.Drop, shape.Ones and shape.Strides return is written, and the shape that they were given lies as it lay. No condition beyond those written. -/
import Derived.Test.YtfkohjngogjmkaaK0
import Derived.Test.YtfkohjngogjmkaaA25
import Derived.Test.YtfkohjngogjmkaaA9
import Derived.Test.YtfkohjngogjmkaaT3
import Derived.Test.YtfkohjngogjmkaaT5
import Derived.Test.YtfkohjngogjmkaaA5
import Derived.Test.YtfkohjngogjmkaaL1
import Derived.Shelf.RegionOpenPlain
import Derived.RangeFuncBox
namespace Go.Proofs.Ytfkohjngogjmkaa.Print
open Go.RowKit Go.Proofs.YtfkohjngogjmkaaW.PrintWords Go.Proofs.YtfkohjngogjmkaaW.PrintLast Go.Proofs.YtfkohjngogjmkaaW.PrintMore
set_option linter.unusedVariables false
set_option linter.unusedSimpArgs false

def fluxionlaw06_ShapeSame.f (k : Nat) (l0 : List Int) (l1 : List Int) : Option Bool := (shape_Same.f k l0 l1).bind fun t1 => (fluxionref06_SameList.f k l0 l1).bind fun t2 => if t1 = t2 then (if l0.length < 17592186044416 then (shape_Drop.f k l0 []).bind fun d => (shape_Ones.f k l0 []).bind fun o => (shape_Strides.f k l0).bind fun s => (fluxionref06_SameList.f k l0 l0).bind fun t3 => if t3 = true then (fluxionlaw06_known.f k).bind fun t4 => some t4 else none else none) else none

/-- One of three. -/
def pick3 {α : Type} (a b c : α) : Nat → α
  | 0 => a
  | 1 => b
  | _ => c
def pick4 {α : Type} (a b c d : α) : Nat → α
  | 0 => a
  | 1 => b
  | 2 => c
  | _ => d
/-- Between two rounds: three rows of numbers, each between two bounds; the list of them; what lay below the first bound lies as it lay. -/
def SameJ (w4 : World) (lo : Nat → Nat) (L : Nat) (A : Nat → Option Addr) (n c : Nat → Nat) (W : World) : Prop :=
  (∀ i, i < 3 → ∃ xs, Kd.R (Kd.int .i64) 3 W w4.heap.size (fun k => lo i ≤ k ∧ k < lo (i + 1)) (.slice (A i) (n i) (c i)) xs) ∧
  (∀ i, i < 3 → W.cell? ⟨L, i, none⟩ = some (.slice (A i) (n i) (c i))) ∧ Below w4.heap.size w4 W
theorem SameJ.drewN {w4 : World} {lo : Nat → Nat} {L : Nat} {A : Nat → Option Addr} {n c : Nat → Nat} {W : World} (h : SameJ w4 lo L A n c W) (m : Nat) : SameJ w4 lo L A n c (W.drewN m) := by
  refine ⟨fun i hi => ?_, fun i hi => ?_, pw_below_drewN h.2.2 m⟩
  · obtain ⟨xs, hx⟩ := h.1 i hi
    exact ⟨xs, Kd.R_below hx (pw_below_drewN (Below.refl _ _) m)⟩
  · exact h.2.1 i hi
theorem SameJ.drew {w4 : World} {lo : Nat → Nat} {L : Nat} {A : Nat → Option Addr} {n c : Nat → Nat} {W : World} (h : SameJ w4 lo L A n c W) : SameJ w4 lo L A n c W.drew := by
  refine ⟨fun i hi => ?_, fun i hi => ?_, below_drew h.2.2⟩
  · obtain ⟨xs, hx⟩ := h.1 i hi
    exact ⟨xs, Kd.R_below hx (below_drew (Below.refl _ _))⟩
  · exact h.2.1 i hi
theorem SameJ.at {w4 : World} {lo : Nat → Nat} {L : Nat} {A : Nat → Option Addr} {n c : Nat → Nat} {W : World} (h : SameJ w4 lo L A n c W) (i j : Nat) (hi : i < 3) (hj : j < n i) :
    ∃ g x, A i = some ⟨g, 0, none⟩ ∧ W.cell? ⟨g, j, none⟩ = some (.int .i64 x) ∧ W.frozen? ⟨g, j, none⟩ = false ∧ lo i ≤ g ∧ g < lo (i + 1) ∧ w4.heap.size ≤ g := by
  obtain ⟨xs, hx⟩ := h.1 i hi
  obtain ⟨hl, _, _⟩ := Kd.R_reads' hx
  obtain ⟨g, cap, e, hb, hs, _⟩ := Kd.R_form hx (by omega)
  injection e with e1 e2 e3
  rw [e1] at hx
  obtain ⟨h1, h2⟩ := Kd.R_celln 0 hx (j : Int) (by omega) (by omega)
  rw [Int.toNat_natCast] at h1 h2
  have hok := hx.1 g rfl
  exact ⟨g, _, e1, h1, h2, hok.1, hok.2, hb⟩
theorem SameJ.put {w4 : World} {lo : Nat → Nat} {L : Nat} {A : Nat → Option Addr} {n c : Nat → Nat} {W : World} (h : SameJ w4 lo L A n c W) (i j g : Nat) (x : Int) (hi : i < 3) (hA : A i = some ⟨g, 0, none⟩) (h1 : lo i ≤ g) (h2 : g < lo (i + 1)) (h4 : w4.heap.size ≤ g)
    (hlo : lo 0 ≤ lo 1 ∧ lo 1 ≤ lo 2 ∧ lo 2 ≤ lo 3 ∧ lo 3 ≤ L) : SameJ w4 lo L A n c (W.setCell ⟨g, j, none⟩ (.int .i64 x)) := by
  have hgL : g < L := by
    have : i = 0 ∨ i = 1 ∨ i = 2 := by omega
    rcases this with rfl | rfl | rfl <;> simp only [Nat.zero_add, Nat.reduceAdd] at h2 <;> omega
  refine ⟨fun k hk => ?_, fun k hk => ?_, h.2.2.setCell (p := ⟨g, j, none⟩) h4 _⟩
  · obtain ⟨xs, hx⟩ := h.1 k hk
    by_cases e : k = i
    · subst e
      rw [hA] at hx ⊢
      have := Kd.R_putn hx (j : Int) x
      rw [Int.toNat_natCast] at this
      exact ⟨_, this⟩
    · refine ⟨xs, Kd.R_far hx (fun q hq => ?_) _⟩
      show q ≠ g
      have c1 : i = 0 ∨ i = 1 ∨ i = 2 := by omega
      have c2 : k = 0 ∨ k = 1 ∨ k = 2 := by omega
      rcases c1 with rfl | rfl | rfl <;> rcases c2 with rfl | rfl | rfl <;> simp only [Nat.zero_add, Nat.reduceAdd] at h1 h2 hq <;> omega
  · have := h.2.1 k hk
    rw [← this]
    have hh := Below.heap_setCell W ⟨g, j, none⟩ (.int .i64 x) L (show L ≠ g by omega)
    simp only [World.cell?, hh]
theorem SameJ.start {w4 w5 w6 w7 : World} {AD AN AS : Option Addr} {cD cN cS : Nat} {d o s : List Int}
    (hd : Kd.R (Kd.int .i64) 3 w5 w4.heap.size (fun _ => True) (.slice AD d.length cD) d) (hb5 : Below w4.heap.size w4 w5)
    (ho : Kd.R (Kd.int .i64) 3 w6 w5.heap.size (fun _ => True) (.slice AN o.length cN) o) (hb6 : Below w5.heap.size w5 w6)
    (hs : Kd.R (Kd.int .i64) 3 w7 w6.heap.size (fun _ => True) (.slice AS s.length cS) s) (hb7 : Below w6.heap.size w6 w7) :
    SameJ w4 (pick4 w4.heap.size w5.heap.size w6.heap.size w7.heap.size) w7.heap.size (pick3 AD AN AS) (pick3 d.length o.length s.length) (pick3 cD cN cS)
      (w7.alloc (.cells #[.slice AD d.length cD, .slice AN o.length cN, .slice AS s.length cS] 23)) := by
  have s5 := hb5.size
  have s6 := hb6.size
  have s7 := hb7.size
  have b7 : Below w7.heap.size w7 (w7.alloc (.cells #[.slice AD d.length cD, .slice AN o.length cN, .slice AS s.length cS] 23)) := below_alloc (Below.refl _ _) _
  have b6 := hb7.trans (b7.mono s7)
  have b5 := hb6.trans (b6.mono s6)
  have b4 := hb5.trans (b5.mono s5)
  refine ⟨fun i hi => ?_, fun i hi => ?_, b4⟩
  · match i, hi with
    | 0, _ => exact ⟨d, Kd.R_below (Kd.R_mono (Kd.R_bound hd) (fun k hk => ⟨hk.2.1, hk.2.2.1⟩)) b5⟩
    | 1, _ => exact ⟨o, Kd.R_below (Kd.R_lower (Kd.R_mono (Kd.R_bound ho) (fun k hk => ⟨hk.2.1, hk.2.2.1⟩)) s5) b6⟩
    | 2, _ => exact ⟨s, Kd.R_below (Kd.R_lower (Kd.R_mono (Kd.R_bound hs) (fun k hk => ⟨hk.2.1, hk.2.2.1⟩)) (Nat.le_trans s5 s6)) b7⟩
  · have hn := World.alloc_heap_new w7 (.cells #[.slice AD d.length cD, .slice AN o.length cN, .slice AS s.length cS] 23)
    match i, hi with
    | 0, _ => unfold World.cell?; rw [hn]; rfl
    | 1, _ => unfold World.cell?; rw [hn]; rfl
    | 2, _ => unfold World.cell?; rw [hn]; rfl

set_option maxHeartbeats 8000000 in
set_option maxRecDepth 100000 in
theorem fluxionlaw06_ShapeSame.calls (k : Nat) (A0 : Option Addr) (c0 : Nat) (l0 : List Int) (A1 : Option Addr) (c1 : Nat) (l1 : List Int) (r : Bool) (w : World) (hr0 : Kd.C (Kd.int .i64) w A0 l0.length l0) (hc0 : l0.length ≤ c0) (hr1 : Kd.C (Kd.int .i64) w A1 l1.length l1) (hc1 : l1.length ≤ c1) (h : fluxionlaw06_ShapeSame.f k l0 l1 = some r) :
    Calls Try.prog 12 #[.slice A0 l0.length c0, .slice A1 l1.length c1] w fun e w' => e = .returned (.bool r) ∧ Below w.heap.size w w' := by
  unfold fluxionlaw06_ShapeSame.f at h
  obtain ⟨t1, a1, h⟩ := Option.bind_eq_some_iff.mp h
  obtain ⟨t2, a2, h⟩ := Option.bind_eq_some_iff.mp h
  by_cases e1 : t1 = t2
  · rw [if_pos e1] at h
    by_cases e2 : l0.length < 17592186044416
    · rw [if_pos e2] at h
      obtain ⟨d, a3, h⟩ := Option.bind_eq_some_iff.mp h
      obtain ⟨o, a4, h⟩ := Option.bind_eq_some_iff.mp h
      obtain ⟨s, a5, h⟩ := Option.bind_eq_some_iff.mp h
      obtain ⟨t3, a6, h⟩ := Option.bind_eq_some_iff.mp h
      by_cases e3 : t3 = true
      · rw [if_pos e3] at h
        obtain ⟨t4, a7, h⟩ := Option.bind_eq_some_iff.mp h
        obtain rfl := Option.some.inj h
        subst e1 e3
        have HR0 := Aside0.mk hr0
        have HC0 := Aside0.mk hc0
        have HR1 := Aside0.mk hr1
        have HC1 := Aside0.mk hc1
        have A1_ := Aside0.mk a1
        have A2_ := Aside0.mk a2
        have A3_ := Aside0.mk a3
        have A4_ := Aside0.mk a4
        have A5_ := Aside0.mk a5
        have A6_ := Aside0.mk a6
        have A7_ := Aside0.mk a7
        have LM := Aside0.mk e2
        clear hr0 hc0 hr1 hc1 a1 a2 a3 a4 a5 a6 a7 e2 h
        have hne : (t1 != t1) = false := by simp
        go_enter Try.func12, Try.ntmps12
        have HB := Aside0.mk (Below.refl w.heap.size w)
        go_wp2_with (first
          | (go_at_call 36; refine (shape_Same.calls k _ _ l0 _ _ l1 t1 _ HR0.out HC0.out HR1.out HC1.out A1_.out).mono ?_; rintro e w1 ⟨rfl, ⟨m1, rfl⟩⟩)
          | (go_at_call 21; refine (fluxionref06_SameList.calls k _ _ l0 _ _ l1 t1 _ (Kd.C_drewN HR0.out _) HC0.out (Kd.C_drewN HR1.out _) HC1.out A2_.out).mono ?_; rintro e w1 ⟨rfl, ⟨m2, rfl⟩⟩)
          | ((with_reducible refine gate_builtin (b := .append) (xs := #[.const (.slice none 0 0), .tmp 16]) rfl ?_); at_builtin; refine Kd.R_append_rows (Kd.int .i64) (w0 := w) w.heap.size rfl (.const (.slice none 0 0)) (.tmp 16) 23 3 (.int .i64 0) 8 rfl Try.underlying23 info3 rfl (by decide) (by omega) (.slice none 0 0) ([] : List Int) l0 _ _ _ (fun _ => True) (fun _ => False) rfl rfl ?aO ?aR (fun _ _ h => h) (fun _ h => h.elim) ?aF ?aB ?aS ?aL ?_; (case aR => repeat (first | exact HR0.out | (with_reducible refine Kd.C_alloc ?_ _) | (with_reducible refine Kd.C_drewN ?_ _) | (with_reducible refine Kd.C_drew ?_))); (case aB => exact (by repeat (first | (with_reducible first | exact HB.out | apply below_alloc | apply pw_below_drewN | apply below_drew1) | exact HB.out))); (case aF => exact (fun _ _ => trivial)); (case aO => exact ((Kd.R_nil _ _ _ _ (fun _ => True)))); (case aS => exact (below_size (by repeat (first | (with_reducible first | exact HB.out | apply below_alloc | apply pw_below_drewN | apply below_drew1) | exact HB.out)))); (case aL => have := LM.out; simp at this ⊢; omega); intro vown w4 ho hb hg hat; rw [List.nil_append] at ho; have HO := Aside0.mk ho; have HB4 := Aside0.mk hb; clear ho hb hg hat HB; obtain ⟨AO, cO, rfl, hlO, hCO⟩ := Kd.R_reads HO.out; have HCO := Aside0.mk hCO; have HLO := Aside0.mk hlO; clear hCO hlO)
          | (go_at_call 30; refine (shape_Drop.calls k _ _ l0 _ _ [] d _ HCO.out HLO.out (Kd.C_nil _ _) (Nat.le_refl _) A3_.out).mono ?_; rintro e w5 ⟨vd, rfl, hod, hb5⟩; have HOD := Aside0.mk hod; have HB5 := Aside0.mk hb5; clear hod hb5; obtain ⟨AD, cD, rfl, hlD, hCD⟩ := Kd.R_reads HOD.out; clear hCD hlD)
          | (go_at_call 31; refine (shape_Ones.calls k _ _ l0 _ _ [] o _ (Kd.C_below HCO.out HB5.out) HLO.out (Kd.C_nil _ _) (Nat.le_refl _) A4_.out).mono ?_; rintro e w6 ⟨vo, rfl, hoo, hb6⟩; have HOO := Aside0.mk hoo; have HB6 := Aside0.mk hb6; clear hoo hb6; obtain ⟨AN, cN, rfl, hlN, hCN⟩ := Kd.R_reads HOO.out; clear hCN hlN)
          | (go_at_call 28; refine (shape_Strides.calls k _ _ l0 s _ (Kd.C_below HCO.out (HB5.out.trans (HB6.out.mono HB5.out.size))) HLO.out A5_.out).mono ?_; rintro e w7 ⟨vs, rfl, hos, hb7⟩; have HOS := Aside0.mk hos; have HB7 := Aside0.mk hb7; clear hos hb7; obtain ⟨AS, cS, rfl, hlS, hCS⟩ := Kd.R_reads HOS.out; clear hCS hlS))
        have HJ := Aside0.mk (SameJ.start HOD.out HB5.out HOO.out HB6.out HOS.out HB7.out)
        have hlo : Aside0 (pick4 w4.heap.size w5.heap.size w6.heap.size w7.heap.size 0 ≤ pick4 w4.heap.size w5.heap.size w6.heap.size w7.heap.size 1 ∧ pick4 w4.heap.size w5.heap.size w6.heap.size w7.heap.size 1 ≤ pick4 w4.heap.size w5.heap.size w6.heap.size w7.heap.size 2 ∧ pick4 w4.heap.size w5.heap.size w6.heap.size w7.heap.size 2 ≤ pick4 w4.heap.size w5.heap.size w6.heap.size w7.heap.size 3 ∧ pick4 w4.heap.size w5.heap.size w6.heap.size w7.heap.size 3 ≤ w7.heap.size) := ⟨⟨HB5.out.size, HB6.out.size, HB7.out.size, Nat.le_refl _⟩⟩
        have hn : Aside0 (∀ i, pick3 d.length o.length s.length i ≤ 9223372036854775807) := ⟨fun i => by
          have q1 := Kd.C_max (Kd.R_reads' HOD.out).2.2
          have q2 := Kd.C_max (Kd.R_reads' HOO.out).2.2
          have q3 := Kd.C_max (Kd.R_reads' HOS.out).2.2
          match i with
          | 0 => exact q1
          | 1 => exact q2
          | (i + 2) => exact q3⟩
        generalize pick4 w4.heap.size w5.heap.size w6.heap.size w7.heap.size = lo at HJ hlo
        generalize pick3 AD AN AS = A at HJ
        generalize pick3 d.length o.length s.length = n at HJ hn
        generalize pick3 cD cN cS = c at HJ
        go_loopw [7] (fun v wr => ∃ i : Nat, i ≤ 3 ∧ v = .int .i64 (i : Int) ∧ Aside0 (SameJ w4 lo w7.heap.size A n c wr)) (fun v _ => 3 - (intOf v).toNat)
        case atStart => exact ⟨0, by omega, rfl, HJ⟩
        case round =>
          clear HJ
          obtain ⟨i, hi, rfl, HJ⟩ := hrel
          by_cases hlt : i < 3
          · have hd : decide ((i : Int) < 3) = true := by simp; omega
            go_wp2
            go_loopw [8] (fun v wr => ∃ j : Nat, j ≤ n i ∧ v = .int .i64 (j : Int) ∧ Aside0 (SameJ w4 lo w7.heap.size A n c wr)) (fun v _ => n i - (intOf v).toNat)
            case atStart => exact ⟨0, by omega, rfl, HJ⟩
            case round =>
              clear HJ
              obtain ⟨j, hj, rfl, HJ⟩ := hrel
              have hcell := HJ.out.2.1 i hlt
              have hni := hn.out i
              by_cases hltj : j < n i
              · have hdj : decide ((j : Int) < (n i : Int)) = true := by simp; omega
                obtain ⟨g, x, hA, hc, hf, g1, g2, g3⟩ := HJ.out.at i j hlt hltj
                have G := Aside0.mk (And.intro hA (And.intro g1 (And.intro g2 g3)))
                rw [hA] at hcell
                clear hA g1 g2 g3
                go_wp2
                have hmix : Try.prog.follows .mixedOrders = true := by kernel_rfl
                have hi0 : (0 : Int) ≤ (i : Int) := by omega
                have hi1 : (i : Int) < 3 := by omega
                go_region_with_o (fail)
                all_goals
                  go_wp2
                  go_roundw
                  case rel => exact ⟨j + 1, by omega, by simp, ⟨(HJ.out.put i j g _ hlt G.out.1 G.out.2.1 G.out.2.2.1 G.out.2.2.2 hlo.out).drew⟩⟩
                  case measure => simp [intOf]; omega
              · obtain rfl : j = n i := by omega
                have hdj : decide ((n i : Int) < (n i : Int)) = false := by simp
                go_wp2
                go_roundw
                case rel => exact ⟨i + 1, by omega, by simp, HJ⟩
                case measure => simp [intOf]; omega
          · obtain rfl : i = 3 := by omega
            have hd : decide ((3 : Int) < 3) = false := by simp
            have HBw : Below w.heap.size w wr := HB4.out.trans (HJ.out.2.2.mono HB4.out.size)
            have HBx := Aside0.mk HBw
            clear HBw
            go_wp2_with (first
              | (go_at_call 21; refine (fluxionref06_SameList.calls k _ _ l0 _ _ l0 true _ (Kd.C_below HCO.out HJ.out.2.2) HLO.out (Kd.C_below HR0.out HBx.out) HC0.out A6_.out).mono ?_; rintro e w8 ⟨rfl, ⟨m8, rfl⟩⟩)
              | (go_at_call 16; refine (fluxionlaw06_known.calls k t4 _ A7_.out).mono ?_; rintro e w9 ⟨rfl, hb9⟩; have HB9 := Aside0.mk hb9; clear hb9))
            go_ret
            exact ⟨rfl, (pw_below_drewN HBx.out m8).trans (HB9.out.mono (by have := HBx.out.size; simpa using this))⟩
      · rw [if_neg e3] at h; exact absurd h (by simp)
    · rw [if_neg e2] at h; exact absurd h (by simp)
  · rw [if_neg e1] at h; exact absurd h (by simp)
/-- THE ONE PURE STATEMENT of fluxionlaw06_ShapeSame. -/
def fluxionlaw06_ShapeSame.Pure : Prop := ∀ (l0 : List Int) (l1 : List Int), l0.length ≤ maxLen → l0.length * 8 ≤ 140737488351232 → (∀ x ∈ l0, (Lit.int .i64 x).wf = true) → l1.length ≤ maxLen → l1.length * 8 ≤ 140737488351232 → (∀ x ∈ l1, (Lit.int .i64 x).wf = true) → ∃ k, fluxionlaw06_ShapeSame.f k l0 l1 = some true
theorem fluxionlaw06_ShapeSame.walk (P : fluxionlaw06_ShapeSame.Pure) (a0 : Option Addr) (len0 cap0 : Nat) (z0 : List Int) (a1 : Option Addr) (len1 cap1 : Nat) (z1 : List Int) (w : World) (w0 : (a0 = none ∧ len0 = 0 ∧ cap0 = 0 ∧ z0 = []) ∨ ∃ x, a0 = some x ∧ len0 ≤ cap0 ∧ cap0 ≤ maxLen ∧ z0.length = cap0 ∧ (∀ i, i < z0.length → w.cell? (x.add i) = some (.int .i64 (z0.getD i 0))) ∧ ∀ n ∈ z0, (Lit.int .i64 n).wf = true) (y0 : len0 * 8 ≤ 140737488351232) (w1 : (a1 = none ∧ len1 = 0 ∧ cap1 = 0 ∧ z1 = []) ∨ ∃ x, a1 = some x ∧ len1 ≤ cap1 ∧ cap1 ≤ maxLen ∧ z1.length = cap1 ∧ (∀ i, i < z1.length → w.cell? (x.add i) = some (.int .i64 (z1.getD i 0))) ∧ ∀ n ∈ z1, (Lit.int .i64 n).wf = true) (y1 : len1 * 8 ≤ 140737488351232) :
    Calls Try.prog 12 #[.slice a0 len0 cap0, .slice a1 len1 cap1] w fun e w' => e = .returned (.bool true) ∧ Below w.heap.size w w' := by
  obtain ⟨l0, rfl, hr0, hm0, hw0, hc0⟩ := ReadsInt.ofRowC w0
  obtain ⟨l1, rfl, hr1, hm1, hw1, hc1⟩ := ReadsInt.ofRowC w1
  obtain ⟨k, h⟩ := P l0 l1 hm0 y0 hw0 hm1 y1 hw1
  refine (fluxionlaw06_ShapeSame.calls k _ _ l0 _ _ l1 true w (Kd.C_of_reads (d := (0 : Int)) (h1 := fun _ => rfl) hr0) hc0 (Kd.C_of_reads (d := (0 : Int)) (h1 := fun _ => rfl) hr1) hc1 h).mono ?_
  rintro e w' ⟨rfl, hd⟩
  exact ⟨rfl, hd⟩

end Go.Proofs.Ytfkohjngogjmkaa.Print
