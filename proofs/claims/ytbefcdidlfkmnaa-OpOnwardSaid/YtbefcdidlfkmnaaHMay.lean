/- The contracts of the functions in the program's op.table: what each returns for any list; no condition beyond those written. -/
import Derived.Test.YtbefcdidlfkmnaaHOf
import Derived.Test.YtbefcdidlfkmnaaA19
import Derived.Test.YtbefcdidlfkmnaaA14
import Derived.Test.YtbefcdidlfkmnaaB1
import Derived.Test.YtbefcdidlfkmnaaA17
import Derived.Test.YtbefcdidlfkmnaaA19
import Derived.Test.YtbefcdidlfkmnaaA19
import Derived.Shelf.RegionOpenPlain
namespace Go.Proofs.Ytbefcdidlfkmnaa.Print
open Go.RowKit Go.Shelf Go.Proofs.YtbefcdidlfkmnaaW.PrintWords Go.Proofs.YtbefcdidlfkmnaaW.PrintLast Go.Proofs.YtbefcdidlfkmnaaW.PrintMore
attribute [local go_sem] max2_int min2_int max_two min_two max_three min_three max_four min_four
set_option linter.unusedVariables false
set_option linter.unusedSimpArgs false

def oneB (m : Int) (l : List Int) : Bool := decide (l.length = 1) && (decide (0 ≤ rd l 0) && decide (rd l 0 ≤ m))
def cutB (a b : Int) : Bool := decide (0 ≤ a) && decide (a < b)
def rimB (a b : Int) : Bool := decide (0 ≤ mn a b)
def pairsAll (p : Int → Int → Bool) : List Int → Bool
  | a :: b :: r => p a b && pairsAll p r
  | _ => true
def pairsB (p : Int → Int → Bool) (l : List Int) : Bool := if l.length % 2 = 0 ∧ l.length ≤ 8 then pairsAll p l else false

theorem quiet_drawn' {P : Program} {f : FuncId} {args : Array Value} {W : World} {a x : Nat} {v : Value} (h : Calls P f args (W.drewN (a + x)) fun e w' => e = .returned v ∧ Drawn0 (W.drewN (a + x)) w') :
    Calls P f args (W.drewN (a + x)) fun e w' => e = .returned v ∧ ∃ n, w' = W.drewN (a + n) :=
  h.mono fun e w' ⟨he, ⟨m, hw⟩⟩ => ⟨he, x + m, by rw [hw, World.drewN_drewN, Nat.add_assoc]⟩

set_option maxHeartbeats 2000000 in
theorem rim_calls (a b : Int) (w : World) : Calls Try.prog 50 #[.int .i64 a, .int .i64 b] w fun e w' => e = .returned (.bool (rimB a b)) ∧ Drawn0 w w' := by
  go_enter Try.func50, Try.ntmps50
  have e_ : ∀ q : Int, (q = if b < a then b else a) → (Ending.returned (.bool (decide (0 ≤ q)))) = Ending.returned (.bool (rimB a b)) := fun q hq => by rw [hq]; rfl
  go_wp2
  all_goals
    go_ret
    exact ⟨e_ _ (by split <;> omega), Drawn0.refl _⟩
theorem cut_calls (a b : Int) (w : World) : Calls Try.prog 49 #[.int .i64 a, .int .i64 b] w fun e w' => e = .returned (.bool (cutB a b)) ∧ Drawn0 w w' := by
  refine op_cut.calls a b _ w ?_
  unfold op_cut.f cutB
  by_cases h : a ≥ 0
  · rw [if_pos h]; simp [show (0 : Int) ≤ a from h]
  · rw [if_neg h]; simp [show ¬ (0 : Int) ≤ a from h]

set_option maxRecDepth 100000 in
set_option maxHeartbeats 8000000 in
theorem one1_calls (B : Nat) (m : Int) (W : World) (h : Boxed W B 3 (.int .i64 m)) (A : Option Addr) (c : Nat) (l : List Int) (hC : Kd.C (Kd.int .i64) W A l.length l) :
    Calls Try.prog 51 #[.slice A l.length c, .pointer (some ⟨B, 0, none⟩)] W fun e w' => e = .returned (.bool (oneB m l)) ∧ Below W.heap.size W w' := by
  have hb := h.cell
  by_cases c1 : l.length = 1
  · have d1 : ((l.length : Int) == 1) = true := by simp [c1]
    have hi1 : (0 : Int) < (l.length : Int) := by omega
    obtain ⟨ad, hA, k0⟩ := Kd.at_int hC 0 (by omega) (by omega)
    cases hA
    have k0' : W.cell? ad = some (.int .i64 (rd l 0)) := by
      have e : ad.add 0 = ad := by cases ad; simp [Addr.add]
      rw [← e]; exact k0
    by_cases c2 : 0 ≤ rd l 0
    · have d2 : decide (0 ≤ rd l 0) = true := decide_eq_true c2
      go_enter Try.func51, Try.ntmps51
      go_wp2
      go_quiet (fail)
      go_wp2
      go_ret
      exact ⟨by unfold oneB; rw [decide_eq_true c1, d2]; rfl, pw_below_drewN (Below.refl _ _) _⟩
    · have d2 : decide (0 ≤ rd l 0) = false := decide_eq_false c2
      go_enter Try.func51, Try.ntmps51
      go_wp2
      go_quiet (fail)
      go_wp2
      go_ret
      exact ⟨by unfold oneB; rw [decide_eq_true c1, d2]; rfl, pw_below_drewN (Below.refl _ _) _⟩
  · have d1 : ((l.length : Int) == 1) = false := by
      rw [beq_eq_false_iff_ne]; omega
    go_enter Try.func51, Try.ntmps51
    go_wp2
    go_quiet (fail)
    go_wp2
    go_ret
    exact ⟨by unfold oneB; rw [decide_eq_false c1]; rfl, pw_below_drewN (Below.refl _ _) _⟩

set_option maxRecDepth 100000 in
set_option maxHeartbeats 8000000 in
theorem pairs_cut_calls (B : Nat) (W : World) (h : Boxed W B 64 (.func (.func 49) #[] #[])) (A : Option Addr) (c : Nat) (l : List Int) (hC : Kd.C (Kd.int .i64) W A l.length l) :
    Calls Try.prog 55 #[.slice A l.length c, .pointer (some ⟨B, 0, none⟩)] W fun e w' => e = .returned (.bool (pairsB cutB l)) ∧ Below W.heap.size W w' := by
  have HC := Aside0.mk hC
  have HX := Aside0.mk h
  have hmax := Kd.C_max hC
  clear hC h
  by_cases c1 : l.length % 2 = 0
  · have d1 : ((l.length : Int) % 2 != 0) = false := by
      have : (l.length : Int) % 2 = 0 := by omega
      rw [this]; rfl
    have d1' : (Int.tmod (l.length : Int) 2 != 0) = false := by
      rw [Int.tmod_eq_emod_of_nonneg (by omega)]; exact d1
    by_cases c2 : l.length ≤ 8
    · have d2 : decide ((8 : Int) < (l.length : Int)) = false := by simp; omega
      go_enter Try.func55, Try.ntmps55
      go_wp2
      go_loopw [4] (fun v wr => ∃ i : Nat, i ≤ l.length ∧ i % 2 = 0 ∧ v = .int .i64 (i : Int) ∧ Aside0 (pairsB cutB l = pairsAll cutB (l.drop i)) ∧ Aside0 (∃ m, wr = W.drewN m)) (fun v _ => l.length - (intOf v).toNat)
      case atStart => exact ⟨0, by omega, rfl, rfl, ⟨by unfold pairsB; rw [if_pos ⟨c1, c2⟩]; rfl⟩, ⟨0, rfl⟩⟩
      case round =>
        obtain ⟨i, hi, hpar, rfl, HE, HM⟩ := hrel
        obtain ⟨m, rfl⟩ := HM.out
        clear HM
        by_cases hlt : i < l.length
        · have hd : decide ((i : Int) < (l.length : Int)) = true := by simp; omega
          have hlt1 : i + 1 < l.length := by omega
          obtain ⟨ad, hA, k0⟩ := Kd.at_int HC.out (i : Int) (by omega) (by omega)
          obtain ⟨ad', hA', k1⟩ := Kd.at_int HC.out ((i + 1 : Nat) : Int) (by omega) (by omega)
          cases hA
          cases hA'
          rw [Int.toNat_natCast] at k0 k1
          have hb : W.cell? ⟨B, 0, none⟩ = some (.func (.func 49) #[] #[]) := (HX.out).cell
          have hi0 : (0 : Int) ≤ (i : Int) := by omega
          have hi1 : (i : Int) < (l.length : Int) := by omega
          have hi3 : (i : Int) + 1 < (l.length : Int) := by omega
          have hi4 : (0 : Int) ≤ (i : Int) + 1 := by omega
          have hw : IntKind.i64.wrap ((i : Int) + 1) = (i : Int) + 1 := by rw [i64_w]; unfold wrap64; omega
          have hd2 : l.drop i = rd l (i : Int) :: rd l ((i + 1 : Nat) : Int) :: l.drop (i + 2) := by
            rw [List.drop_eq_getElem_cons hlt, List.drop_eq_getElem_cons hlt1]
            have e0 : rd l (i : Int) = l[i] := by simp [rd, hlt]
            have e1 : rd l ((i + 1 : Nat) : Int) = l[i + 1] := by unfold rd; rw [Int.toNat_natCast]; simp [hlt1]
            rw [e0, e1]
          have HE2 := HE.out
          rw [hd2, pairsAll] at HE2
          clear HE
          have HE3 := Aside0.mk HE2
          clear HE2 hd2
          have HCall := Aside0.mk (fun x : Nat => cut_calls (rd l (i : Int)) (rd l ((i + 1 : Nat) : Int)) (W.drewN (m + x)))
          generalize rd l (i : Int) = x0 at k0 HE3 HCall
          generalize rd l ((i + 1 : Nat) : Int) = x1 at k1 HE3 HCall
          rw [show ad.add (i + 1) = ⟨ad.block, ad.off + (i + 1), none⟩ from by simp [Addr.add]] at k1
          cases hp : cutB x0 x1 with
          | true =>
            rw [hp] at HE3 HCall
            go_wp2
            go_quiet ((go_at_call 49; exact quiet_drawn' (HCall.out _)))
            go_wp2
            go_roundw
            case rel => exact ⟨i + 2, by omega, by omega, by simp, ⟨by rw [HE3.out]; rfl⟩, ⟨_, rfl⟩⟩
            case measure => simp [intOf]; omega
          | false =>
            rw [hp] at HE3 HCall
            go_wp2
            go_quiet ((go_at_call 49; exact quiet_drawn' (HCall.out _)))
            go_wp2
            go_ret
            exact ⟨by rw [HE3.out]; rfl, pw_below_drewN (pw_below_drewN (Below.refl _ _) _) _⟩
        · obtain rfl : i = l.length := by omega
          have hd : decide ((l.length : Int) < (l.length : Int)) = false := by simp
          go_wp2
          go_ret
          exact ⟨by rw [HE.out, List.drop_length]; rfl, pw_below_drewN (Below.refl _ _) _⟩
    · have d2 : decide ((8 : Int) < (l.length : Int)) = true := by simp; omega
      go_enter Try.func55, Try.ntmps55
      go_wp2
      go_ret
      exact ⟨by unfold pairsB; rw [if_neg (fun h => c2 h.2)]; rfl, Below.refl _ _⟩
  · have d1 : ((l.length : Int) % 2 != 0) = true := by
      have : (l.length : Int) % 2 = 1 := by omega
      rw [this]; rfl
    have d1' : (Int.tmod (l.length : Int) 2 != 0) = true := by
      rw [Int.tmod_eq_emod_of_nonneg (by omega)]; exact d1
    go_enter Try.func55, Try.ntmps55
    go_wp2
    go_ret
    exact ⟨by unfold pairsB; rw [if_neg (fun h => c1 h.1)]; rfl, Below.refl _ _⟩

set_option maxRecDepth 100000 in
set_option maxHeartbeats 8000000 in
theorem pairs_rim_calls (B : Nat) (W : World) (h : Boxed W B 64 (.func (.func 50) #[] #[])) (A : Option Addr) (c : Nat) (l : List Int) (hC : Kd.C (Kd.int .i64) W A l.length l) :
    Calls Try.prog 55 #[.slice A l.length c, .pointer (some ⟨B, 0, none⟩)] W fun e w' => e = .returned (.bool (pairsB rimB l)) ∧ Below W.heap.size W w' := by
  have HC := Aside0.mk hC
  have HX := Aside0.mk h
  have hmax := Kd.C_max hC
  clear hC h
  by_cases c1 : l.length % 2 = 0
  · have d1 : ((l.length : Int) % 2 != 0) = false := by
      have : (l.length : Int) % 2 = 0 := by omega
      rw [this]; rfl
    have d1' : (Int.tmod (l.length : Int) 2 != 0) = false := by
      rw [Int.tmod_eq_emod_of_nonneg (by omega)]; exact d1
    by_cases c2 : l.length ≤ 8
    · have d2 : decide ((8 : Int) < (l.length : Int)) = false := by simp; omega
      go_enter Try.func55, Try.ntmps55
      go_wp2
      go_loopw [4] (fun v wr => ∃ i : Nat, i ≤ l.length ∧ i % 2 = 0 ∧ v = .int .i64 (i : Int) ∧ Aside0 (pairsB rimB l = pairsAll rimB (l.drop i)) ∧ Aside0 (∃ m, wr = W.drewN m)) (fun v _ => l.length - (intOf v).toNat)
      case atStart => exact ⟨0, by omega, rfl, rfl, ⟨by unfold pairsB; rw [if_pos ⟨c1, c2⟩]; rfl⟩, ⟨0, rfl⟩⟩
      case round =>
        obtain ⟨i, hi, hpar, rfl, HE, HM⟩ := hrel
        obtain ⟨m, rfl⟩ := HM.out
        clear HM
        by_cases hlt : i < l.length
        · have hd : decide ((i : Int) < (l.length : Int)) = true := by simp; omega
          have hlt1 : i + 1 < l.length := by omega
          obtain ⟨ad, hA, k0⟩ := Kd.at_int HC.out (i : Int) (by omega) (by omega)
          obtain ⟨ad', hA', k1⟩ := Kd.at_int HC.out ((i + 1 : Nat) : Int) (by omega) (by omega)
          cases hA
          cases hA'
          rw [Int.toNat_natCast] at k0 k1
          have hb : W.cell? ⟨B, 0, none⟩ = some (.func (.func 50) #[] #[]) := (HX.out).cell
          have hi0 : (0 : Int) ≤ (i : Int) := by omega
          have hi1 : (i : Int) < (l.length : Int) := by omega
          have hi3 : (i : Int) + 1 < (l.length : Int) := by omega
          have hi4 : (0 : Int) ≤ (i : Int) + 1 := by omega
          have hw : IntKind.i64.wrap ((i : Int) + 1) = (i : Int) + 1 := by rw [i64_w]; unfold wrap64; omega
          have hd2 : l.drop i = rd l (i : Int) :: rd l ((i + 1 : Nat) : Int) :: l.drop (i + 2) := by
            rw [List.drop_eq_getElem_cons hlt, List.drop_eq_getElem_cons hlt1]
            have e0 : rd l (i : Int) = l[i] := by simp [rd, hlt]
            have e1 : rd l ((i + 1 : Nat) : Int) = l[i + 1] := by unfold rd; rw [Int.toNat_natCast]; simp [hlt1]
            rw [e0, e1]
          have HE2 := HE.out
          rw [hd2, pairsAll] at HE2
          clear HE
          have HE3 := Aside0.mk HE2
          clear HE2 hd2
          have HCall := Aside0.mk (fun x : Nat => rim_calls (rd l (i : Int)) (rd l ((i + 1 : Nat) : Int)) (W.drewN (m + x)))
          generalize rd l (i : Int) = x0 at k0 HE3 HCall
          generalize rd l ((i + 1 : Nat) : Int) = x1 at k1 HE3 HCall
          rw [show ad.add (i + 1) = ⟨ad.block, ad.off + (i + 1), none⟩ from by simp [Addr.add]] at k1
          cases hp : rimB x0 x1 with
          | true =>
            rw [hp] at HE3 HCall
            go_wp2
            go_quiet ((go_at_call 50; exact quiet_drawn' (HCall.out _)))
            go_wp2
            go_roundw
            case rel => exact ⟨i + 2, by omega, by omega, by simp, ⟨by rw [HE3.out]; rfl⟩, ⟨_, rfl⟩⟩
            case measure => simp [intOf]; omega
          | false =>
            rw [hp] at HE3 HCall
            go_wp2
            go_quiet ((go_at_call 50; exact quiet_drawn' (HCall.out _)))
            go_wp2
            go_ret
            exact ⟨by rw [HE3.out]; rfl, pw_below_drewN (pw_below_drewN (Below.refl _ _) _) _⟩
        · obtain rfl : i = l.length := by omega
          have hd : decide ((l.length : Int) < (l.length : Int)) = false := by simp
          go_wp2
          go_ret
          exact ⟨by rw [HE.out, List.drop_length]; rfl, pw_below_drewN (Below.refl _ _) _⟩
    · have d2 : decide ((8 : Int) < (l.length : Int)) = true := by simp; omega
      go_enter Try.func55, Try.ntmps55
      go_wp2
      go_ret
      exact ⟨by unfold pairsB; rw [if_neg (fun h => c2 h.2)]; rfl, Below.refl _ _⟩
  · have d1 : ((l.length : Int) % 2 != 0) = true := by
      have : (l.length : Int) % 2 = 1 := by omega
      rw [this]; rfl
    have d1' : (Int.tmod (l.length : Int) 2 != 0) = true := by
      rw [Int.tmod_eq_emod_of_nonneg (by omega)]; exact d1
    go_enter Try.func55, Try.ntmps55
    go_wp2
    go_ret
    exact ⟨by unfold pairsB; rw [if_neg (fun h => c1 h.1)]; rfl, Below.refl _ _⟩

/-- May these be the attributes of the i-th row? -/
def mayF (k : Nat) (l : List Int) : Nat → Option Bool
  | 5 => some (oneB 16 l)
  | 8 => op_reduced.f k l
  | 10 => op_turned.f l
  | 11 => op_dims.f k l
  | 12 => op_dims.f k l
  | 13 => op_rising.f k l
  | 14 => some (pairsB cutB l)
  | 15 => some (pairsB rimB l)
  | 16 => some (oneB 3 l)
  | 19 => op_rising.f k l
  | _ => op_no.f l

theorem drawn_below {P : Program} {f : FuncId} {args : Array Value} {w : World} {v : Value} (h : Calls P f args w fun e w' => e = .returned v ∧ Drawn0 w w') : Calls P f args w fun e w' => e = .returned v ∧ Below w.heap.size w w' :=
  h.mono fun e w' ⟨he, m, hw⟩ => ⟨he, by rw [hw]; exact pw_below_drewN (Below.refl _ _) _⟩

/-- What a row's function says. -/
theorem may_calls (k : Nat) (n i : Nat) (hi : i < 20) (l : List Int) (b : Bool) (h : mayF k l i = some b) (W : World) (hm : MayBoxes n W) (A : Option Addr) (c : Nat) (hC : Kd.C (Kd.int .i64) W A l.length l) (hc : l.length ≤ c) :
    ∃ (g : Nat) (lb : Array Value), mayI n i = .func (.func g) #[] lb ∧ (∀ args w, (callFunc g args).run Try.prog w = .ok (.enter g args) w) ∧
      Calls Try.prog g (#[.slice A l.length c] ++ lb) W fun e w' => e = .returned (.bool b) ∧ Below W.heap.size W w' := by
  have no : ∀ b, op_no.f l = some b → Calls Try.prog 42 (#[.slice A l.length c] ++ #[]) W fun e w' => e = .returned (.bool b) ∧ Below W.heap.size W w' := fun b hb => drawn_below (op_no.calls A c l b W hC hc hb)
  have ci : i = 0 ∨ i = 1 ∨ i = 2 ∨ i = 3 ∨ i = 4 ∨ i = 5 ∨ i = 6 ∨ i = 7 ∨ i = 8 ∨ i = 9 ∨ i = 10 ∨ i = 11 ∨ i = 12 ∨ i = 13 ∨ i = 14 ∨ i = 15 ∨ i = 16 ∨ i = 17 ∨ i = 18 ∨ i = 19 := by omega
  rcases ci with rfl | rfl | rfl | rfl | rfl | rfl | rfl | rfl | rfl | rfl | rfl | rfl | rfl | rfl | rfl | rfl | rfl | rfl | rfl | rfl
  · exact ⟨_, _, rfl, enters_of Try.func42 (by kernel_rfl) rfl, no b h⟩
  · exact ⟨_, _, rfl, enters_of Try.func42 (by kernel_rfl) rfl, no b h⟩
  · exact ⟨_, _, rfl, enters_of Try.func42 (by kernel_rfl) rfl, no b h⟩
  · exact ⟨_, _, rfl, enters_of Try.func42 (by kernel_rfl) rfl, no b h⟩
  · exact ⟨_, _, rfl, enters_of Try.func42 (by kernel_rfl) rfl, no b h⟩
  · obtain rfl := Option.some.inj h
    exact ⟨_, _, rfl, enters_of Try.func51 (by kernel_rfl) rfl, one1_calls _ 16 W hm.1 A c l hC⟩
  · exact ⟨_, _, rfl, enters_of Try.func42 (by kernel_rfl) rfl, no b h⟩
  · exact ⟨_, _, rfl, enters_of Try.func42 (by kernel_rfl) rfl, no b h⟩
  · exact ⟨_, _, rfl, enters_of Try.func44 (by kernel_rfl) rfl, op_reduced.calls k A c l b W hC hc h⟩
  · exact ⟨_, _, rfl, enters_of Try.func42 (by kernel_rfl) rfl, no b h⟩
  · exact ⟨_, _, rfl, enters_of Try.func45 (by kernel_rfl) rfl, op_turned.calls A c l b W hC hc h⟩
  · exact ⟨_, _, rfl, enters_of Try.func46 (by kernel_rfl) rfl, drawn_below (op_dims.calls k A c l b W hC hc h)⟩
  · exact ⟨_, _, rfl, enters_of Try.func46 (by kernel_rfl) rfl, drawn_below (op_dims.calls k A c l b W hC hc h)⟩
  · exact ⟨_, _, rfl, enters_of Try.func47 (by kernel_rfl) rfl, drawn_below (op_rising.calls k A c l b W hC hc h)⟩
  · obtain rfl := Option.some.inj h
    exact ⟨_, _, rfl, enters_of Try.func55 (by kernel_rfl) rfl, pairs_cut_calls _ W hm.2.1 A c l hC⟩
  · obtain rfl := Option.some.inj h
    exact ⟨_, _, rfl, enters_of Try.func55 (by kernel_rfl) rfl, pairs_rim_calls _ W hm.2.2.1 A c l hC⟩
  · obtain rfl := Option.some.inj h
    exact ⟨_, _, rfl, enters_of Try.func51 (by kernel_rfl) rfl, one1_calls _ 3 W hm.2.2.2 A c l hC⟩
  · exact ⟨_, _, rfl, enters_of Try.func42 (by kernel_rfl) rfl, no b h⟩
  · exact ⟨_, _, rfl, enters_of Try.func42 (by kernel_rfl) rfl, no b h⟩
  · exact ⟨_, _, rfl, enters_of Try.func47 (by kernel_rfl) rfl, drawn_below (op_rising.calls k A c l b W hC hc h)⟩
end Go.Proofs.Ytbefcdidlfkmnaa.Print
