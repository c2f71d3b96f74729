/- Proved here: LexNumbers, the card of the law: any word is read as a number, a reference and a rational as the document says. Without a condition. Written by wip/tools/claimtexts.py: these texts, one behind another, without what this claim does not use: PureLexNumbers, LawLexNumbers. -/
import Derived.Test.YtibaoacjjcgjlaaGreatDoorMgNum9
import Derived.Test.YtibaoacjjcgjlaaGreatDoorMgNum8
import Derived.Test.YtibaoacjjcgjlaaGreatDoorCards
import Derived.Test.YtibaoacjjcgjlaaGreatDoorTie
import Derived.WalkKit
import Derived.ProofKit
import Derived.OpenShut
import Derived.ShutString
import Derived.ChangeOld
import Derived.Below
import Derived.SizedLaws
import Derived.Lay
import Derived.Look8
import Derived.Deep.DeepHandedRow
import Derived.Deep.DeepWitnessRowRef
import Derived.Lib.LaidTab
import Derived.Stop.LaidErr
import Derived.Test.YtibaoacjjcgjlaaGreatDoorMgNum1
namespace Go.Proofs.YtibaoacjjcgjlaaGreatDoor.Pure
open Go.RowKit Go.Proofs.YtibaoacjjcgjlaaGreatDoorW.PrintWords Go.Proofs.YtibaoacjjcgjlaaGreatDoorW.PrintLast Go.Proofs.YtibaoacjjcgjlaaGreatDoor.Print Go.Proofs.YtibaoacjjcgjlaaGreatDoor.Base Go.Proofs.YtibaoacjjcgjlaaGreatDoor.Ref
set_option linter.unusedVariables false
set_option linter.unusedSimpArgs false
theorem num_ten {l : List UInt8} (h : natB l = true) (hl : 10 < l.length) : 10000000000 ≤ numD l := by
  obtain ⟨h1, h2, h3⟩ := natB_iff.1 h
  cases l with
  | nil => simp at hl
  | cons c r =>
    have hc : c ≠ 48 := fun e => by
      have := h3 (by rw [e]; rfl)
      omega
    have hd := h2 c (List.mem_cons_self ..)
    have hne : c.toNat ≠ 48 := fun e => hc (UInt8.toNat_inj.1 (by have h48 : (48 : UInt8).toNat = 48 := rfl; omega))
    have e1 : numD (c :: r) = numF (10 * 0 + (c.toNat - 48)) r := rfl
    rw [e1, numF_eq]
    have hr : 10 ≤ r.length := by simp at hl; omega
    have a2 : 10 ^ 10 ≤ 10 ^ r.length := Nat.pow_le_pow_right (by decide) hr
    have a3 : 1 * 10 ^ r.length ≤ (10 * 0 + (c.toNat - 48)) * 10 ^ r.length := Nat.mul_le_mul_right _ (by omega)
    rw [Nat.one_mul] at a3
    exact Nat.le_trans (show 10000000000 ≤ 10 ^ 10 by decide) (Nat.le_trans a2 (Nat.le_trans a3 (Nat.le_add_right _ _)))
theorem refnum_loop (l : List UInt8) (hd : DigL l) (hl : l.length ≤ 10) : ∀ (m i : Nat), i + m = l.length → Ev (fun k => fluxionref16_number.l0 k (bA l) ((numD (l.take i) : Nat) : Int) (i : Int)) (if 2147483647 < numD l then (0, 14) else ((numD l : Int), 0)) := by
  intro m
  induction m with
  | zero =>
    intro i hi
    rw [List.take_of_length_le (by omega)]
    by_cases h : 2147483647 < numD l
    · refine Ev.step (f := fun _ => some (0, 14)) (fun k => ?_) (by rw [if_pos h]; exact Ev.now _)
      simp only [fluxionref16_number.l0]
      rw [if_neg (by rw [bA_size]; omega), if_pos (by omega)]
    · refine Ev.step (f := fun _ => some ((numD l : Int), 0)) (fun k => ?_) (by rw [if_neg h]; exact Ev.now _)
      simp only [fluxionref16_number.l0]
      rw [if_neg (by rw [bA_size]; omega), if_neg (by omega)]
  | succ m ih =>
    intro i hi
    have hi2 : i < l.length := by omega
    have hb := bt_bA l i hi2
    have hdi := hd _ (List.getElem_mem hi2)
    have ih := ih (i + 1) (by omega)
    rw [List.take_succ_eq_append_getElem hi2, numD_snoc] at ih
    have hlt := numD_lt _ (fun x hx => hd x (List.mem_of_mem_take hx) : DigL (l.take i))
    have hp : 10 ^ (l.take i).length ≤ 10 ^ 10 := Nat.pow_le_pow_right (by decide) (by rw [List.length_take]; omega)
    have hv : numD (l.take i) < 10000000000 := Nat.lt_of_lt_of_le hlt (Nat.le_trans hp (by decide))
    generalize numD (l.take i) = v at ih hv ⊢
    generalize l[i] = c at hb hdi ih
    have e1 : wrap64 (wrap64 (wrap64 (10 * (v : Int)) + wrap64 (bt (bA l) (i : Int))) - 48) = ((10 * v + (c.toNat - 48) : Nat) : Int) := by
      rw [hb, w64 (x := 10 * (v : Int)) (by omega) (by omega), w64n (n := c.toNat) (by omega), w64 (x := 10 * (v : Int) + ((c.toNat : Nat) : Int)) (by omega) (by omega), w64 (by omega) (by omega)]; omega
    refine Ev.step (fun k => ?_) ih
    simp only [fluxionref16_number.l0]
    rw [if_pos (by rw [bA_size]; omega), if_pos (by omega), e1, w64 (by omega) (by omega)]; rfl
theorem refnumber_ev (l : List UInt8) (hl : l.length ≤ 140737488351232) : Ev (fun k => fluxionref16_number.f k (bA l)) (readW l) := by
  have hd := digits_ev (bA l) (by rw [bA_size]; exact hl)
  rw [natW_bA] at hd
  refine Ev.congr (fun k => rfl) (Ev.bind hd (f := fun (k : Nat) (t134 : Bool) => if t134 = true then (if ((bA l).size : Int) > 10 then (some (0, 14)) else (fluxionref16_number.l0 k (bA l) 0 0)) else (some (0, 19))) ?_)
  unfold readW
  by_cases hn : natB l = true
  · rw [if_pos hn]
    by_cases h10 : 10 < l.length
    · have := num_ten hn h10
      rw [if_pos (by omega)]
      refine Ev.congr (fun k => ?_) (Ev.now _)
      rw [if_pos hn, if_pos (by rw [bA_size]; omega)]
    · have h := refnum_loop l (natB_iff.1 hn).2.1 (by omega) l.length 0 (by omega)
      refine Ev.congr (fun k => ?_) h
      rw [if_pos hn, if_neg (by rw [bA_size]; omega)]; rfl
  · rw [if_neg hn]
    refine Ev.congr (fun k => ?_) (Ev.now _)
    rw [if_neg hn]
theorem head_bt (l : List UInt8) (c : UInt8) (h : 0 < l.length) : (bt (bA l) 0 == ((c.toNat : Nat) : Int)) = headC c l := by
  have hb : bt (bA l) 0 = ((l[0].toNat : Nat) : Int) := bt_bA l 0 h
  rw [hb]
  unfold headC
  cases l with
  | nil => simp at h
  | cons d r =>
    rw [Bool.eq_iff_iff, beq_iff_eq, beq_iff_eq]
    constructor
    · intro e
      have : d = c := UInt8.toNat_inj.1 (by have e2 : (((d :: r)[0].toNat : Nat) : Int) = ((c.toNat : Nat) : Int) := e; simp at e2; omega)
      rw [this]; rfl
    · intro e
      have : d = c := by simpa using e
      rw [this]; rfl
theorem drop_bA (l : List UInt8) : (bA l).extract 1 (bA l).size = bA (l.drop 1) := by
  rw [extract_bA, bA_size, List.take_of_length_le (by rw [List.length_drop]; exact Nat.le_refl _)]
theorem refint_ev (l : List UInt8) (hl : l.length ≤ 140737488351232) : Ev (fun k => fluxionref16_Int.f k (bA l)) (intW l) := by
  have hneg : headC 45 l = false → Ev (fun k => fluxionref16_Int.j0 k (bA l) false) (intW l) := by
    intro h
    unfold intW
    rw [if_neg (by rw [h]; decide)]
    refine Ev.step (f := fun k => (fluxionref16_number.f k (bA l)).bind fun bt137 => some (bt137.1, bt137.2)) (fun k => ?_) (Ev.bind (refnumber_ev l hl) (Ev.now _))
    simp only [fluxionref16_Int.j0]; rw [if_neg (by decide)]
  by_cases h0 : l.length = 0
  · have hl0 : l = [] := List.eq_nil_of_length_eq_zero h0
    subst hl0
    refine Ev.congr (fun k => ?_) (hneg rfl)
    unfold fluxionref16_Int.f
    rw [if_neg (by rw [bA_size]; simp)]
  · have hb := head_bt l 45 (by omega)
    refine Ev.congr (f := fun k => fluxionref16_Int.j0 k (bA l) (headC 45 l)) (fun k => ?_) ?_
    · unfold fluxionref16_Int.f
      rw [if_pos (by rw [bA_size]; omega), if_pos (by rw [bA_size]; omega), ← hb]; rfl
    · by_cases h : headC 45 l = true
      · have et : tailC 45 l = l.drop 1 := by unfold tailC; rw [if_pos h]
        have hr := readW_range (l.drop 1)
        have hn := refnumber_ev (l.drop 1) (by rw [List.length_drop]; omega)
        unfold intW
        rw [h, if_pos rfl, et]
        refine Ev.step (f := fun k => (fluxionref16_number.f k (bA (l.drop 1))).bind fun bt135 => if bt135.2 = 0 then (if bt135.1 = 0 then (some (0, 19)) else (some (wrap64 (-bt135.1), bt135.2))) else (some (wrap64 (-bt135.1), bt135.2))) (fun k => ?_) (Ev.bind hn ?_)
        · simp only [fluxionref16_Int.j0]
          rw [if_pos trivial, if_pos (by rw [bA_size]; omega), drop_bA]
        · have hz : (readW (l.drop 1)).2 = 0 → ((readW (l.drop 1)).1 = 0 ↔ l.drop 1 = [48]) := by
            intro he
            unfold readW at he ⊢
            by_cases h1 : natB (l.drop 1) = true
            · rw [if_pos h1] at he ⊢
              by_cases h2 : 2147483647 < numD (l.drop 1)
              · rw [if_pos h2] at he; exact absurd (show (14 : Int) = 0 from he) (by decide)
              · rw [if_neg h2]
                have := nat_zero h1
                simp only []
                rw [← this]; omega
            · rw [if_neg h1] at he; exact absurd (show (19 : Int) = 0 from he) (by decide)
          by_cases h48 : l.drop 1 = [48]
          · rw [if_pos h48, h48]
            exact Ev.now _
          · rw [if_neg h48]
            refine Ev.congr (fun k => ?_) (Ev.now _)
            by_cases he : (readW (l.drop 1)).2 = 0
            · rw [if_pos he, if_neg (fun c => h48 ((hz he).1 c)), w64 (by omega) (by omega)]
            · rw [if_neg he, w64 (by omega) (by omega)]
      · have h2 : headC 45 l = false := by simpa using h
        rw [h2]
        exact hneg h2
theorem refref_ev (l : List UInt8) (hl : l.length ≤ 140737488351232) : Ev (fun k => fluxionref16_Ref.f k (bA l)) (refW l) := by
  by_cases h0 : l.length = 0
  · have hl0 : l = [] := List.eq_nil_of_length_eq_zero h0
    subst hl0
    refine Ev.congr (f := fun _ => some (refW [])) (fun k => ?_) (Ev.now _)
    unfold fluxionref16_Ref.f
    rw [if_pos (by rw [bA_size]; rfl)]; rfl
  · have hb := head_bt l 37 (by omega)
    by_cases h : headC 37 l = true
    · have et : tailC 37 l = l.drop 1 := by unfold tailC; rw [if_pos h]
      unfold refW
      rw [if_pos h, et]
      refine Ev.congr (fun k => ?_) (Ev.bind (refnumber_ev (l.drop 1) (by rw [List.length_drop]; omega)) (f := fun (_ : Nat) (bt139 : Int × Int) => some (bt139.1, bt139.2)) (Ev.now _))
      rw [h, beq_iff_eq] at hb
      unfold fluxionref16_Ref.f
      rw [if_neg (by rw [bA_size]; omega), if_pos (by rw [bA_size]; omega), if_pos (by rw [hb]; rfl), if_pos (by rw [bA_size]; omega), drop_bA]
    · have h2 : headC 37 l = false := by simpa using h
      refine Ev.congr (f := fun _ => some (refW l)) (fun k => ?_) (Ev.now _)
      rw [h2, beq_eq_false_iff_ne] at hb
      unfold fluxionref16_Ref.f refW
      rw [if_neg (by rw [bA_size]; omega), if_pos (by rw [bA_size]; omega), if_neg (by exact hb), if_neg h]
theorem lexrat_ev (l : List UInt8) (hl : l.length ≤ 140737488351232) : Ev (fun k => lex_Rat.f k (bA l)) (outR 4294967296 (resR l)) :=
  Ev.bind (progR_ev l hl) (f := fun (_ : Nat) (bt126 : Bool × List Int × List Int × Int) => some (bt126.1, bt126.2.1, bt126.2.2.1, bt126.2.2.2)) (Ev.now _)
theorem LexNumbers : fluxionlaw16_LexNumbers.Pure := by
  intro a0 hs
  refine Ev.rounds (r := true) ?_
  have hk : Ev (fun k => (fluxionlaw16_known.f k).bind fun t => some t) true := Ev.bind known16_ev (Ev.now _)
  rw [← bA_self a0] at hs ⊢
  generalize a0.data.toList = l at hs ⊢
  rw [bA_size] at hs
  have main : Ev (fun k => fluxionlaw16_LexNumbers.j0 k (bA l) false) true := by
    by_cases h : ((bA l).size : Int) > 120
    · refine Ev.step (fun k => ?_) hk
      simp only [fluxionlaw16_LexNumbers.j0]; rw [if_neg (by decide), if_pos h]
    · have hp := lexrat_ev l hs
      have hr := refR_ev l hs
      refine Ev.step (f := fun k => (lex_Rat.f k (bA l)).bind fun bt110 => ((r4PR.f k (bA l)).bind fun bt119 => (if bt119.2.2.2 = 0 then (if bt110.2.2.2 = 0 then ((r3Is.f k bt119.1 bt119.2.1 bt119.2.2.1 bt110.1 bt110.2.1 bt110.2.2.1).bind fun t128 => (if t128 = true then ((fluxionlaw16_known.f k).bind fun t129 => (some t129)) else (none))) else (none)) else (if bt110.2.2.2 = bt119.2.2.2 then (if bt110.1 = true then (none) else (if (bt110.2.1.length : Int) = 0 then (if (bt110.2.2.1.length : Int) = 0 then ((fluxionlaw16_known.f k).bind fun t130 => (some t130)) else (none)) else (none))) else (none))))) (fun k => ?_) (Ev.bind hp (Ev.bind hr ?_))
      · simp only [fluxionlaw16_LexNumbers.j0]; rw [if_neg (by decide), if_neg h]
      · by_cases he : (resR l).1 = 0
        · obtain ⟨q1, q2, _⟩ := resR_ok he
          unfold outR
          rw [if_pos he, if_pos he]
          refine Ev.congr (fun k => by rw [if_pos rfl, if_pos rfl]) (Ev.bind (is3_ev q1 q2 (by decide)) ?_)
          exact Ev.congr (fun k => by rw [if_pos rfl]) hk
        · unfold outR
          rw [if_neg he, if_neg he]
          refine Ev.congr (fun k => ?_) hk
          rw [if_neg he, if_pos rfl]; rfl
  have h1 := lexint_ev l hs
  have h2 := refint_ev l hs
  have h3 := lexref_f l hs
  have h4 := refref_ev l hs
  refine Ev.congr (fun k => ?_) (Ev.bind h1 (f := fun (k : Nat) (bt101 : Int × Int) => ((fluxionref16_Int.f k (bA l)).bind fun bt103 => ((fluxionref16_Ref.f k (bA l)).bind fun bt107 => (if bt101.1 = bt103.1 then (if bt101.2 = bt103.2 then (if (refW l).1 = bt107.1 then (fluxionlaw16_LexNumbers.j0 k (bA l) ((refW l).2 != bt107.2)) else (fluxionlaw16_LexNumbers.j0 k (bA l) true)) else (fluxionlaw16_LexNumbers.j0 k (bA l) true)) else (fluxionlaw16_LexNumbers.j0 k (bA l) true))))) (Ev.bind h2 (Ev.bind h4 ?_)))
  · unfold fluxionlaw16_LexNumbers.f
    rw [h3]; rfl
  · refine Ev.congr (fun k => ?_) main
    rw [if_pos rfl, if_pos rfl, if_pos rfl, show ((refW l).2 != (refW l).2) = false by simp]
end Go.Proofs.YtibaoacjjcgjlaaGreatDoor.Pure

namespace Go.Proofs.YtibaoacjjcgjlaaGreatDoor.lexNumbers
open Go.ChangeShapes Go.WideShapes Go.ChangeAt Go.RowKit
open Go.ChangeMaps (open_string shut_string)
set_option linter.unusedVariables false
theorem own : ownKnob Tryz.prog.godebug = none := by kernel_rfl
theorem rowErr (u : TypeId) (h : Tryz.prog.typeName? 3 u = some "*errors.errorString") : u = 178 :=
  typeName_ptr_named (nm := "errors.errorString") (by rw [show "*" ++ "errors.errorString" = "*errors.errorString" by decide]; kernel_rfl) (by kernel_rfl) (by decide) u (by rw [show "*" ++ "errors.errorString" = "*errors.errorString" by decide]; exact h)
noncomputable abbrev W0 (os : Os) : World := World.laidAll Tryz.prog os Rows.lexNumbersRow.laid
theorem laid_met (os : Os) (args : Array Value) : laidMet Tryz.prog Rows.lexNumbersRow.laid ((W0 os).forCall (fun _ _ => 0) ⟨#[], args, []⟩).memory :=
  laidMet_laidAll args (by kernel_rfl) (by kernel_rfl)
theorem witness_row (os : Os) {H : Type} (enc : TypeId × Value → H) :
    (OpenSpec.ofChange Rows.lexNumbersSpec).preRow enc Tryz.prog Tryz.f3 Rows.lexNumbersRow.domain false Rows.lexNumbersRow.laid ((W0 os).forCall (fun _ _ => 0) ⟨#[], #[.string ⟨#[]⟩], []⟩).memory #[.string ⟨#[]⟩] := by
  have hw : (DataW.whole enc Tryz.prog ((W0 os).forCall (fun _ _ => 0) ⟨#[], #[.string ⟨#[]⟩], []⟩).memory Tryz.f3.params.toList (OpenSpec.ofChange Rows.lexNumbersSpec).vars false #[.string ⟨#[]⟩].toList 8).map (fun x => (x.1, x.2.1)) =
      some ([.lit (.string [])], []) := by kernel_rfl
  obtain ⟨⟨x1, x2, x3⟩, hx, hx1⟩ := Option.map_eq_some_iff.1 hw
  simp only [Prod.mk.injEq] at hx1
  obtain ⟨rfl, rfl⟩ := hx1
  exact OpenSpec.preRow_of_cond 8 hx (by kernel_rfl) (fun k hk => by cases hk) (by kernel_rfl) (laid_met os _)
open Print Go.Proofs.YtibaoacjjcgjlaaGreatDoorW.PrintWords Go.Proofs.YtibaoacjjcgjlaaGreatDoorW.PrintLast in
theorem lawcall (w : World) (a0 : ByteArray) (w0 : a0.size ≤ 140737488351232) (hv : RangeVar w) :
    Calls Tryz.prog 3 #[.string a0] w fun e w' => e = .returned (.bool true) ∧ Below w.heap.size w w' := by
  obtain ⟨k, h⟩ := Pure.LexNumbers a0 w0
  refine (fluxionlaw16_LexNumbers.calls k a0 true w hv h).mono ?_
  rintro e w' ⟨rfl, hd⟩
  exact ⟨rfl, hd⟩
set_option maxRecDepth 100000 in
theorem lifted (os : Os) (started : os.Started) (H : Type) (enc : TypeId × Value → H) (G : Stop.Interp) :
    ReturnsInHanded {} Tryz.checked os 3 .any ((OpenSpec.ofChange Rows.lexNumbersSpec).preRow enc Tryz.prog Tryz.f3 Rows.lexNumbersRow.domain false Rows.lexNumbersRow.laid) (((OpenSpec.ofChange Rows.lexNumbersSpec).at G).post enc Tryz.prog Tryz.f3 false true false false) := by
  refine returnsInHanded_of_row (C := Tryz.checked) (s := OpenSpec.ofChange Rows.lexNumbersSpec) own started (by kernel_rfl) Tryz.func3
    (witness_row_atRef (enc := enc) (C := Tryz.checked) false (W0 os) #[.string ⟨#[]⟩] (World.laidAll_os _ _ _) (by kernel_rfl) (by kernel_rfl) (by kernel_rfl) (witness_row os enc)) ?_
  intro W base args ds gs before hval0 hW hcnd _ hsz0 hL _ _
  have hsz : (DataW.weightsEach Tryz.prog (Tryz.f3.params.toList ++ (OpenSpec.ofChange Rows.lexNumbersSpec).bare.plain.varTypes Tryz.prog) (ds ++ gs)).all (· ≤ reachBytes) = true := hsz0
  have hval : ∀ (j : Nat) t v, Tryz.f3.params[j]? = some t → args[j]? = some v → Value.okWide Tryz.prog W .any base t v := hval0
  have hW' := hW
  obtain ⟨p, q, hA0, hV, rfl, hfz, hnd⟩ := hW
  have hA : DataW.TrodAll enc Tryz.prog W 0 (fun _ => true) true Tryz.f3.params.toList args.toList ds p := hA0
  rw [Tryz.params3] at hA hval hsz
  obtain ⟨v0, vs0, d0, ds0, p0, q0, hargs, rfl, rfl, h0, r0⟩ := trodAll_cons hA
  obtain ⟨rfl, rfl, rfl⟩ := trodAll_nil r0
  obtain rfl : args = #[v0] := by cases args; simp_all
  obtain ⟨rfl, rfl⟩ := trodVars_none hV
  obtain ⟨a0, rfl, rfl, rfl, y0⟩ := open_string Tryz.underlying9 (hval 0 9 v0 rfl rfl) h0
  have w0 : a0.size ≤ 140737488351232 := by
    have z := sized_string hsz (j := 0) (t := 9) rfl rfl
    rw [Array.length_toList] at z
    exact z
  have hL' : laidMet Tryz.prog Rows.lexNumbersRow.laid W := hL
  have hR : Print.RangeVar W := by
    obtain ⟨a, s, h, _⟩ := laid_sentinel (g := 2) (ti := 66) (tp := 178) (te := 180) (ts := 9) hL'.tail.tail.tail.tail (by kernel_rfl) (by kernel_rfl) Tryz.underlying66 (rowErr) Tryz.underlying178 Tryz.underlying180 rfl rfl Tryz.underlying9 (by kernel_rfl) (by kernel_rfl)
    exact ⟨_, _, h⟩
  clear hA0 hval0 hsz0 hsz
  refine (lawcall W a0 w0 hR).mono fun e W' ⟨he, bel⟩ => ?_
  subst he
  exact ⟨_, rfl, _, _, _, [], _, [], hW', trodAll_mk1 (shut_bool Tryz.underlying4 _), (trodAll_cons_mk (shut_string Tryz.underlying9 y0) trodAll_mk0), rfl, bel.frame _, fun h => by cases h⟩
theorem said : Rows.LexNumbersSaid :=
  OpenClaim.holds_of_cond 3 Tryz.f3 rfl rfl rfl rfl rfl rfl rfl ⟨rfl, rfl, rfl, rfl, rfl⟩ rfl rfl rfl rfl rfl (by kernel_rfl) Tryz.func3 (by kernel_rfl)
    (of_decide_eq_true (by kernel_rfl)) (by unfold Func.isWrapper; first | (rw [if_pos (by decide +kernel)]; kernel_rfl) | (rw [if_neg (by decide +kernel)]; exact ⟨rfl, rfl⟩))
    (fun os started H enc _ F => by rw [OpenClaim.pre_eq_preRow]; exact lifted os started H enc F)
theorem plain (f : FuncId) (fn : Func) (hf : Tryz.pinned.checked.prog.funcNamed "fluxion/fluxionlaw16.LexNumbers" = some f) (hfn : Tryz.pinned.checked.prog.funcs[f]? = some fn) :
    true = Tryz.pinned.checked.prog.looks [] ∧ ∀ (j : Nat) t, fn.params[j]? = some t → Tryz.pinned.checked.prog.wantsStandIn t = false := by
  obtain rfl : f = 3 := Option.some.inj ((show Tryz.prog.funcNamed "fluxion/fluxionlaw16.LexNumbers" = some 3 by kernel_rfl).symm.trans hf) |>.symm
  obtain rfl : fn = Tryz.f3 := (Option.some.inj (Tryz.func3.symm.trans hfn)).symm
  refine ⟨by kernel_rfl, fun j t ht => ?_⟩
  rw [Tryz.params3] at ht
  have hall : ∀ t ∈ Tryz.f3.params, Tryz.prog.wantsStandIn t = false := of_decide_eq_true (by kernel_rfl)
  exact hall t (by rw [Tryz.params3]; exact Array.mem_of_getElem? ht)
theorem card : Rows.LexNumbersCardSaid :=
  Claim7.holds_tied_plain_at .later [] _ _ _ _ said (fun _ h => by cases h) (by kernel_rfl) (fun _ h => by cases h) lexNumbers_row_tie rfl ⟨rfl, rfl⟩ (by kernel_rfl) rfl plain (by kernel_rfl)
#print axioms card
end Go.Proofs.YtibaoacjjcgjlaaGreatDoor.lexNumbers
namespace Go.Proofs.YtibaoacjjcgjlaaGreatDoor
theorem lexNumbers_holds : Rows.LexNumbersCardSaid := lexNumbers.card
end Go.Proofs.YtibaoacjjcgjlaaGreatDoor
