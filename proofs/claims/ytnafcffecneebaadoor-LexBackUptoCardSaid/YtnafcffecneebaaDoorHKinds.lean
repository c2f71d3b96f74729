/- The contracts of the program's lex.kinds and its functions, lex.natural and lex.plain; no condition beyond those written. -/
import Derived.Test.YtnafcffecneebaaDoorK0
import Derived.RangeFuncBox
import Derived.WalkSpells
import Derived.Laws.Strings3
namespace Go.Proofs.YtnafcffecneebaaDoor.Print
open Go.RowKit Go.Proofs.YtnafcffecneebaaDoorW.PrintWords Go.Proofs.YtnafcffecneebaaDoorW.PrintLast Go.Proofs.YtnafcffecneebaaDoorW.PrintMore
set_option linter.unusedVariables false
set_option linter.unusedSimpArgs false

def inB (a b c : Int) : Bool := decide (a ≤ c) && decide (c ≤ b)
set_option maxRecDepth 100000 in
set_option maxHeartbeats 2000000 in
theorem between1_calls (Ba Bb : Nat) (a b c : Int) (W : World) (ha : Boxed W Ba 5 (.int .u8 a)) (hb : Boxed W Bb 5 (.int .u8 b)) :
    Calls Tryd.prog 57 #[.int .u8 c, .pointer (some ⟨Ba, 0, none⟩), .pointer (some ⟨Bb, 0, none⟩)] W fun e w' => e = .returned (.bool (inB a b c)) ∧ Drawn0 W w' := by
  have h1 := ha.cell
  have h2 := hb.cell
  by_cases c1 : a ≤ c
  · have d1 : decide (a ≤ c) = true := decide_eq_true c1
    go_enter Tryd.func57, Tryd.ntmps57
    go_wp2
    go_ret
    exact ⟨by unfold inB; rw [d1]; rfl, by repeat (first | exact Drawn0.refl _ | apply Drawn0.step)⟩
  · have d1 : decide (a ≤ c) = false := decide_eq_false c1
    go_enter Tryd.func57, Tryd.ntmps57
    go_wp2
    go_ret
    exact ⟨by unfold inB; rw [d1]; rfl, by repeat (first | exact Drawn0.refl _ | apply Drawn0.step)⟩
def boxes (w : World) (a b : Int) : World := (w.alloc (.cells #[.int .u8 a] 5)).alloc (.cells #[.int .u8 b] 5)
theorem boxes_size (w : World) (a b : Int) : (boxes w a b).heap.size = w.heap.size + 1 + 1 := by simp [boxes]
theorem between_calls (a b : Int) (w : World) : Calls Tryd.prog 56 #[.int .u8 a, .int .u8 b] w fun e w' => e = .returned (.func (.func 57) #[] #[.pointer (some ⟨w.heap.size, 0, none⟩), .pointer (some ⟨w.heap.size + 1, 0, none⟩)]) ∧ w' = boxes w a b := by
  go_enter Tryd.func56, Tryd.ntmps56
  go_wp2
  go_ret
  exact ⟨by simp, rfl⟩
def kindF (p : Nat) : Value := .func (.func 57) #[] #[.pointer (some ⟨p, 0, none⟩), .pointer (some ⟨p + 1, 0, none⟩)]
def kindsW (w : World) : World := (boxes (boxes (boxes w 97 122) 48 57) 95 95).alloc (.cells #[kindF w.heap.size, kindF (w.heap.size + 1 + 1), kindF (w.heap.size + 1 + 1 + 1 + 1)] 62)
set_option maxRecDepth 100000 in
set_option maxHeartbeats 2000000 in
theorem kinds_calls (w : World) : Calls Tryd.prog 46 #[] w fun e w' => e = .returned (.slice (some ⟨w.heap.size + 1 + 1 + 1 + 1 + 1 + 1, 0, none⟩) 3 3) ∧ w' = kindsW w := by
  go_enter Tryd.func46, Tryd.ntmps46
  go_wp2_with (go_at_call 56; refine (between_calls _ _ _).mono ?_; rintro e w' ⟨rfl, rfl⟩; simp only [boxes_size])
  go_ret
  exact ⟨by simp [boxes_size], by simp [kindsW, kindF, boxes_size]⟩
theorem boxed_drewN {W : World} {B : Nat} {t : TypeId} {v : Value} (h : Boxed W B t v) (m : Nat) : Boxed (W.drewN m) B t v := by
  unfold Boxed at h ⊢; simpa using h
/-- The three kinds, and their boxes, at a place. -/
structure KindsAt (n : Nat) (W : World) : Prop where
  c0 : W.cell? ⟨n + 1 + 1 + 1 + 1 + 1 + 1, 0, none⟩ = some (kindF n)
  c1 : W.cell? ⟨n + 1 + 1 + 1 + 1 + 1 + 1, 1, none⟩ = some (kindF (n + 1 + 1))
  c2 : W.cell? ⟨n + 1 + 1 + 1 + 1 + 1 + 1, 2, none⟩ = some (kindF (n + 1 + 1 + 1 + 1))
  b0 : Boxed W n 5 (.int .u8 97)
  b1 : Boxed W (n + 1) 5 (.int .u8 122)
  b2 : Boxed W (n + 1 + 1) 5 (.int .u8 48)
  b3 : Boxed W (n + 1 + 1 + 1) 5 (.int .u8 57)
  b4 : Boxed W (n + 1 + 1 + 1 + 1) 5 (.int .u8 95)
  b5 : Boxed W (n + 1 + 1 + 1 + 1 + 1) 5 (.int .u8 95)
theorem boxes_new (w : World) (a b : Int) : Boxed (boxes w a b) w.heap.size 5 (.int .u8 a) ∧ Boxed (boxes w a b) (w.heap.size + 1) 5 (.int .u8 b) := by
  have h0 := Boxed.new w 5 (.int .u8 a)
  have h1 := Boxed.new (w.alloc (.cells #[.int .u8 a] 5)) 5 (.int .u8 b)
  simp only [World.size_alloc] at h1
  exact ⟨h0.alloc _, h1⟩
theorem boxes_old {w : World} {B : Nat} {v : Value} (h : Boxed w B 5 v) (a b : Int) : Boxed (boxes w a b) B 5 v := (h.alloc _).alloc _
theorem kindsW_at (w : World) : KindsAt w.heap.size (kindsW w) := by
  obtain ⟨a0, a1⟩ := boxes_new w 97 122
  obtain ⟨a2, a3⟩ := boxes_new (boxes w 97 122) 48 57
  obtain ⟨a4, a5⟩ := boxes_new (boxes (boxes w 97 122) 48 57) 95 95
  simp only [boxes_size] at a2 a3 a4 a5
  have hn := World.alloc_heap_new (boxes (boxes (boxes w 97 122) 48 57) 95 95) (.cells #[kindF w.heap.size, kindF (w.heap.size + 1 + 1), kindF (w.heap.size + 1 + 1 + 1 + 1)] 62)
  simp only [boxes_size] at hn
  have hc : ∀ k v, (#[kindF w.heap.size, kindF (w.heap.size + 1 + 1), kindF (w.heap.size + 1 + 1 + 1 + 1)] : Array Value)[k]? = some v → (kindsW w).cell? ⟨w.heap.size + 1 + 1 + 1 + 1 + 1 + 1, k, none⟩ = some v := fun k v hv => by
    unfold World.cell? kindsW
    rw [hn]; exact hv
  exact ⟨hc 0 _ rfl, hc 1 _ rfl, hc 2 _ rfl, (boxes_old (boxes_old a0 48 57) 95 95).alloc _, (boxes_old (boxes_old a1 48 57) 95 95).alloc _, (boxes_old a2 95 95).alloc _, (boxes_old a3 95 95).alloc _, a4.alloc _, a5.alloc _⟩
theorem kindsW_below (w : World) : Below w.heap.size w (kindsW w) := by
  unfold kindsW boxes
  repeat (first | exact Below.refl _ _ | apply below_alloc)
def digAt (s : ByteArray) (j : Nat) : Bool := inB 48 57 (bt s (j : Int))
def natB (s : ByteArray) : Bool := if ∀ j, j < s.size → digAt s j = true then ((s.toList == ([48] : List UInt8)) || ((s.toList != ([] : List UInt8)) && (bt s 0 != 48))) else false
def lex_natural.f (a0 : ByteArray) : Option Bool := if a0.size ≤ 140737488351232 then some (natB a0) else none
set_option maxRecDepth 100000 in
set_option maxHeartbeats 8000000 in
theorem natural_calls (s : ByteArray) (hs : s.size ≤ 140737488351232) (w : World) : Calls Tryd.prog 36 #[.string s] w fun e w' => e = .returned (.bool (natB s)) ∧ Below w.heap.size w w' := by
  have HS := Aside0.mk hs
  clear hs
  go_enter Tryd.func36, Tryd.ntmps36
  go_wp2_with (go_at_call 46; refine (kinds_calls w).mono ?_; rintro e w1 ⟨rfl, hw1⟩; have HK := Aside0.mk (show KindsAt w.heap.size w1 by rw [hw1]; exact kindsW_at w); have HB := Aside0.mk (show Below w.heap.size w w1 by rw [hw1]; exact kindsW_below w); have k1 := HK.out.c1; unfold kindF at k1; clear hw1)
  go_loopw [10] (fun v10 wr => ∃ (i m : Nat), i ≤ s.size ∧ v10 = .int .i64 (i : Int) ∧ (∀ j, j < i → digAt s j = true) ∧ wr = w1.drewN m) (fun v10 _ => s.size - (intOf v10).toNat)
  case atStart => exact ⟨0, 0, Nat.zero_le _, rfl, fun j hj => absurd hj (by omega), rfl⟩
  case round =>
    obtain ⟨i, m, hi, rfl, hall, rfl⟩ := hrel
    by_cases hlt : i < s.size
    · have hd : decide ((i : Int) < (s.size : Int)) = true := decide_eq_true (by omega)
      have p1 : (0 ≤ (i : Int)) = True := eq_true (by omega)
      have q1 : ((i : Int) < (s.size : Int)) = True := eq_true (by omega)
      have hx : ((s[i]'hlt).toNat : Int) = bt s (i : Int) := bt_at s (i : Int) hlt
      cases hdig : inB 48 57 (bt s (i : Int)) with
      | true =>
        go_wp2_with (go_at_call 57; refine (between1_calls (w.heap.size + 1 + 1) (w.heap.size + 1 + 1 + 1) 48 57 _ _ (boxed_drewN HK.out.b2 m) (boxed_drewN HK.out.b3 m)).mono ?_; rintro e w' ⟨rfl, ⟨q, rfl⟩⟩; rw [hdig])
        go_roundw
        case rel => exact ⟨i + 1, m + q, by omega, by (have := HS.out; rw [show wrap64 ((i : Int) + 1) = (i : Int) + 1 from (by unfold wrap64; omega)]; rfl), fun j hj => by
          by_cases e : j = i
          · rw [e]; exact hdig
          · exact hall j (by omega), by first | rfl | exact World.drewN_add ..⟩
        case measure => have := HS.out; rw [show wrap64 ((i : Int) + 1) = (i : Int) + 1 from (by unfold wrap64; omega)]; simp [intOf]; omega
      | false =>
        go_wp2_with (go_at_call 57; refine (between1_calls (w.heap.size + 1 + 1) (w.heap.size + 1 + 1 + 1) 48 57 _ _ (boxed_drewN HK.out.b2 m) (boxed_drewN HK.out.b3 m)).mono ?_; rintro e w' ⟨rfl, ⟨q, rfl⟩⟩; rw [hdig])
        go_ret
        refine ⟨?_, pw_below_drewN HB.out _⟩
        rw [show natB s = false by unfold natB; rw [if_neg (fun c => by have := c i hlt; unfold digAt at this; rw [hdig] at this; cases this)]]; rfl
    · obtain rfl : i = s.size := by omega
      have hd : decide ((s.size : Int) < (s.size : Int)) = false := decide_eq_false (by omega)
      have E0 := Aside0.mk (show natB s = ((s.toList == ([48] : List UInt8)) || ((s.toList != ([] : List UInt8)) && (bt s 0 != 48))) by unfold natB; rw [if_pos hall])
      clear hall
      cases c1 : (s.toList == ([48] : List UInt8)) with
      | true =>
        go_wp2
        go_ret
        exact ⟨by rw [E0.out, c1]; rfl, pw_below_drewN HB.out _⟩
      | false =>
        cases hE : s.toList.isEmpty with
        | true =>
          have c2 : (s.toList != ([] : List UInt8)) = false := by
            have := List.isEmpty_iff.1 hE
            rw [this]; rfl
          have C2 := Aside0.mk c2
          have C1 := Aside0.mk c1
          clear c2
          go_wp2
          go_ret
          exact ⟨by rw [E0.out, C1.out, C2.out]; rfl, pw_below_drewN HB.out _⟩
        | false =>
          have hne : ¬ s.toList = [] := fun h => by rw [h] at hE; cases hE
          have c2 : (s.toList != ([] : List UInt8)) = true := by simpa using hne
          have hpos : 0 < s.size := by
            rcases Nat.eq_zero_or_pos s.size with h | h
            · have : s.toList = [] := by
                unfold ByteArray.toList ByteArray.toList.loop; simp [h]
              exact absurd this hne
            · exact h
          have q1 : ((0 : Int) < (s.size : Int)) = True := eq_true (by omega)
          have q2 : (0 < s.size) = True := eq_true hpos
          have hx : ((s[0]'hpos).toNat : Int) = bt s 0 := bt_at s 0 hpos
          have C2 := Aside0.mk c2
          have C1 := Aside0.mk c1
          clear c2
          cases c3 : (bt s 0 != 48) with
          | true =>
            go_wp2
            go_ret
            exact ⟨by rw [E0.out, C1.out, C2.out, c3]; rfl, pw_below_drewN HB.out _⟩
          | false =>
            go_wp2
            go_ret
            exact ⟨by rw [E0.out, C1.out, C2.out, c3]; rfl, pw_below_drewN HB.out _⟩
theorem lex_natural.calls (a0 : ByteArray) (r : Bool) (w : World) (h : lex_natural.f a0 = some r) :
    Calls Tryd.prog 36 #[.string a0] w fun e w' => e = .returned (.bool r) ∧ Below w.heap.size w w' := by
  unfold lex_natural.f at h
  by_cases hs : a0.size ≤ 140737488351232
  · rw [if_pos hs] at h
    obtain rfl := Option.some.inj h
    exact natural_calls a0 hs w
  · rw [if_neg hs] at h; cases h
end Go.Proofs.YtnafcffecneebaaDoor.Print
