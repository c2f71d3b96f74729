/- The contract of the program's lex.plain; no condition beyond those written. -/
import Derived.Test.YtnafcffecneebaaDoorHKinds
namespace Go.Proofs.YtnafcffecneebaaDoor.Print
open Go.RowKit Go.Proofs.YtnafcffecneebaaDoorW.PrintWords Go.Proofs.YtnafcffecneebaaDoorW.PrintLast Go.Proofs.YtnafcffecneebaaDoorW.PrintMore
set_option linter.unusedVariables false
set_option linter.unusedSimpArgs false

/-- May the byte at place i be one of the first k kinds? -/
def mayK (s : ByteArray) (i : Nat) : Nat → Bool
  | 0 => false
  | 1 => inB 97 122 (bt s (i : Int))
  | 2 => inB 97 122 (bt s (i : Int)) || (inB 48 57 (bt s (i : Int)) && decide (0 < i))
  | _ => (inB 97 122 (bt s (i : Int)) || (inB 48 57 (bt s (i : Int)) && decide (0 < i))) || (inB 95 95 (bt s (i : Int)) && decide (0 < i))
def plainB (s : ByteArray) : Bool := if ∀ j, j < s.size → mayK s j 3 = true then ((s.toList != ([] : List UInt8)) && decide (s.size ≤ 32)) else false
def lex_plain.f (a0 : ByteArray) : Option Bool := if a0.size ≤ 140737488351232 then some (plainB a0) else none
set_option maxRecDepth 100000 in
set_option maxHeartbeats 16000000 in
theorem plain_calls (s : ByteArray) (hs : s.size ≤ 140737488351232) (w : World) : Calls Tryd.prog 33 #[.string s] w fun e w' => e = .returned (.bool (plainB s)) ∧ Below w.heap.size w w' := by
  have HS := Aside0.mk hs
  clear hs
  go_enter Tryd.func33, Tryd.ntmps33
  go_wp2
  go_loopw [9] (fun v9 wr => ∃ i : Nat, i ≤ s.size ∧ v9 = .int .i64 (i : Int) ∧ Aside0 (∀ j, j < i → mayK s j 3 = true) ∧ Aside0 (Below w.heap.size w wr)) (fun v9 _ => s.size - (intOf v9).toNat)
  case atStart => exact ⟨0, Nat.zero_le _, rfl, ⟨fun j hj => absurd hj (by omega)⟩, ⟨Below.refl _ _⟩⟩
  case round =>
    obtain ⟨i, hi, rfl, HA, HW⟩ := hrel
    by_cases hlt : i < s.size
    · have hd : decide ((i : Int) < (s.size : Int)) = true := decide_eq_true (by omega)
      go_wp2_with (go_at_call 46; refine (kinds_calls _).mono ?_; rintro e w1 ⟨rfl, hw1⟩; obtain ⟨n, hn⟩ : ∃ n, n = wr.heap.size := ⟨_, rfl⟩; rw [← hn]; have HK := Aside0.mk (show KindsAt n w1 by rw [hw1, hn]; exact kindsW_at wr); have HB := Aside0.mk (show Below w.heap.size w w1 by rw [hw1]; exact HW.out.trans ((kindsW_below wr).mono HW.out.size)); clear hw1 hn)
      go_loopw [4, 14] (fun v4 v14 w2 => ∃ (k m : Nat), k ≤ 3 ∧ v14 = .int .i64 (k : Int) ∧ v4 = .bool (mayK s i k) ∧ w2 = w1.drewN m) (fun _ v14 _ => 3 - (intOf v14).toNat)
      case atStart => exact ⟨0, 0, by omega, rfl, rfl, rfl⟩
      case round =>
        obtain ⟨k, m, hk, rfl, rfl, rfl⟩ := hrel
        have p1 : (0 ≤ (i : Int)) = True := eq_true (by omega)
        have q1 : ((i : Int) < (s.size : Int)) = True := eq_true (by omega)
        have hx : ((s[i]'hlt).toNat : Int) = bt s (i : Int) := bt_at s (i : Int) hlt
        rcases (by omega : k = 0 ∨ k = 1 ∨ k = 2 ∨ k = 3) with rfl | rfl | rfl | rfl
        · have k1 := HK.out.c0; unfold kindF at k1
          have hM : mayK s i 0 = false := rfl
          cases hB : inB 97 122 (bt s (i : Int)) with
          | true =>
            have hN : mayK s i 1 = true := hB
            go_wp2_with (go_at_call 57; refine (between1_calls (n) (n + 1) 97 122 _ _ (boxed_drewN HK.out.b0 m) (boxed_drewN HK.out.b1 m)).mono ?_; rintro e w' ⟨rfl, ⟨q, rfl⟩⟩; rw [hB])
            go_roundw
            case rel => exact ⟨1, m + q, by omega, rfl, by rw [hN], by simp⟩
            case measure => simp [intOf]
          | false =>
            have hN : mayK s i 1 = false := hB
            go_wp2_with (go_at_call 57; refine (between1_calls (n) (n + 1) 97 122 _ _ (boxed_drewN HK.out.b0 m) (boxed_drewN HK.out.b1 m)).mono ?_; rintro e w' ⟨rfl, ⟨q, rfl⟩⟩; rw [hB])
            go_roundw
            case rel => exact ⟨1, m + q, by omega, rfl, by rw [hN], by simp⟩
            case measure => simp [intOf]
        · have k1 := HK.out.c1; unfold kindF at k1
          cases hM : mayK s i 1 with
          | true =>
            have hN : mayK s i 2 = true := by (show (mayK s i 1 || _) = true; rw [hM]; rfl)
            go_wp2
            go_roundw
            case rel => exact ⟨2, m, by omega, rfl, by rw [hN], by simp⟩
            case measure => simp [intOf]
          | false =>
            cases hB : inB 48 57 (bt s (i : Int)) with
            | true =>
              by_cases h0 : 0 < i
              · have h0b : decide (0 < (i : Int)) = true := decide_eq_true (by omega)
                have hN : mayK s i 2 = true := by (show (mayK s i 1 || (inB 48 57 (bt s (i : Int)) && decide (0 < i))) = true; rw [hM, hB, decide_eq_true h0]; rfl)
                go_wp2_with (go_at_call 57; refine (between1_calls (n + 1 + 1) (n + 1 + 1 + 1) 48 57 _ _ (boxed_drewN HK.out.b2 m) (boxed_drewN HK.out.b3 m)).mono ?_; rintro e w' ⟨rfl, ⟨q, rfl⟩⟩; rw [hB])
                go_roundw
                case rel => exact ⟨2, m + q, by omega, rfl, by rw [hN], by simp⟩
                case measure => simp [intOf]
              · have h0b : decide (0 < (i : Int)) = false := decide_eq_false (by omega)
                have hN : mayK s i 2 = false := by (show (mayK s i 1 || (inB 48 57 (bt s (i : Int)) && decide (0 < i))) = false; rw [hM, hB, decide_eq_false h0]; rfl)
                go_wp2_with (go_at_call 57; refine (between1_calls (n + 1 + 1) (n + 1 + 1 + 1) 48 57 _ _ (boxed_drewN HK.out.b2 m) (boxed_drewN HK.out.b3 m)).mono ?_; rintro e w' ⟨rfl, ⟨q, rfl⟩⟩; rw [hB])
                go_roundw
                case rel => exact ⟨2, m + q, by omega, rfl, by rw [hN], by simp⟩
                case measure => simp [intOf]
            | false =>
              have hN : mayK s i 2 = false := by (show (mayK s i 1 || (inB 48 57 (bt s (i : Int)) && decide (0 < i))) = false; rw [hM, hB]; rfl)
              go_wp2_with (go_at_call 57; refine (between1_calls (n + 1 + 1) (n + 1 + 1 + 1) 48 57 _ _ (boxed_drewN HK.out.b2 m) (boxed_drewN HK.out.b3 m)).mono ?_; rintro e w' ⟨rfl, ⟨q, rfl⟩⟩; rw [hB])
              go_roundw
              case rel => exact ⟨2, m + q, by omega, rfl, by rw [hN], by simp⟩
              case measure => simp [intOf]
        · have k1 := HK.out.c2; unfold kindF at k1
          cases hM : mayK s i 2 with
          | true =>
            have hN : mayK s i 3 = true := by (show (mayK s i 2 || _) = true; rw [hM]; rfl)
            go_wp2
            go_roundw
            case rel => exact ⟨3, m, by omega, rfl, by rw [hN], by simp⟩
            case measure => simp [intOf]
          | false =>
            cases hB : inB 95 95 (bt s (i : Int)) with
            | true =>
              by_cases h0 : 0 < i
              · have h0b : decide (0 < (i : Int)) = true := decide_eq_true (by omega)
                have hN : mayK s i 3 = true := by (show (mayK s i 2 || (inB 95 95 (bt s (i : Int)) && decide (0 < i))) = true; rw [hM, hB, decide_eq_true h0]; rfl)
                go_wp2_with (go_at_call 57; refine (between1_calls (n + 1 + 1 + 1 + 1) (n + 1 + 1 + 1 + 1 + 1) 95 95 _ _ (boxed_drewN HK.out.b4 m) (boxed_drewN HK.out.b5 m)).mono ?_; rintro e w' ⟨rfl, ⟨q, rfl⟩⟩; rw [hB])
                go_roundw
                case rel => exact ⟨3, m + q, by omega, rfl, by rw [hN], by simp⟩
                case measure => simp [intOf]
              · have h0b : decide (0 < (i : Int)) = false := decide_eq_false (by omega)
                have hN : mayK s i 3 = false := by (show (mayK s i 2 || (inB 95 95 (bt s (i : Int)) && decide (0 < i))) = false; rw [hM, hB, decide_eq_false h0]; rfl)
                go_wp2_with (go_at_call 57; refine (between1_calls (n + 1 + 1 + 1 + 1) (n + 1 + 1 + 1 + 1 + 1) 95 95 _ _ (boxed_drewN HK.out.b4 m) (boxed_drewN HK.out.b5 m)).mono ?_; rintro e w' ⟨rfl, ⟨q, rfl⟩⟩; rw [hB])
                go_roundw
                case rel => exact ⟨3, m + q, by omega, rfl, by rw [hN], by simp⟩
                case measure => simp [intOf]
            | false =>
              have hN : mayK s i 3 = false := by (show (mayK s i 2 || (inB 95 95 (bt s (i : Int)) && decide (0 < i))) = false; rw [hM, hB]; rfl)
              go_wp2_with (go_at_call 57; refine (between1_calls (n + 1 + 1 + 1 + 1) (n + 1 + 1 + 1 + 1 + 1) 95 95 _ _ (boxed_drewN HK.out.b4 m) (boxed_drewN HK.out.b5 m)).mono ?_; rintro e w' ⟨rfl, ⟨q, rfl⟩⟩; rw [hB])
              go_roundw
              case rel => exact ⟨3, m + q, by omega, rfl, by rw [hN], by simp⟩
              case measure => simp [intOf]
        · cases hM : mayK s i 3 with
          | true =>
            go_wp2
            go_roundw
            case rel => exact ⟨i + 1, by omega, by (have := HS.out; rw [show wrap64 ((i : Int) + 1) = (i : Int) + 1 from (by unfold wrap64; omega)]; rfl), ⟨fun j hj => by
              by_cases e : j = i
              · rw [e]; exact hM
              · exact HA.out j (by omega)⟩, ⟨pw_below_drewN HB.out _⟩⟩
            case measure => have := HS.out; rw [show wrap64 ((i : Int) + 1) = (i : Int) + 1 from (by unfold wrap64; omega)]; simp [intOf]; omega
          | false =>
            go_wp2
            go_ret
            refine ⟨?_, pw_below_drewN HB.out _⟩
            rw [show plainB s = false by unfold plainB; rw [if_neg (fun c => by have := c i hlt; rw [hM] at this; cases this)]]; rfl
    · obtain rfl : i = s.size := by omega
      have hd : decide ((s.size : Int) < (s.size : Int)) = false := decide_eq_false (by omega)
      have E0 := Aside0.mk (show plainB s = ((s.toList != ([] : List UInt8)) && decide (s.size ≤ 32)) by unfold plainB; rw [if_pos HA.out])
      clear HA
      cases hE : s.toList.isEmpty with
      | true =>
        have C2 := Aside0.mk (show (s.toList != ([] : List UInt8)) = false by rw [List.isEmpty_iff.1 hE]; rfl)
        go_wp2
        go_ret
        exact ⟨by rw [E0.out, C2.out]; rfl, HW.out⟩
      | false =>
        have C2 := Aside0.mk (show (s.toList != ([] : List UInt8)) = true by
          have hne : ¬ s.toList = [] := fun h => by rw [h] at hE; cases hE
          simpa using hne)
        by_cases h32 : s.size ≤ 32
        · have d32 : decide ((s.size : Int) ≤ 32) = true := decide_eq_true (by omega)
          have D := Aside0.mk (show decide (s.size ≤ 32) = true from decide_eq_true h32)
          go_wp2
          go_ret
          exact ⟨by rw [E0.out, C2.out, D.out]; rfl, HW.out⟩
        · have d32 : decide ((s.size : Int) ≤ 32) = false := decide_eq_false (by omega)
          have D := Aside0.mk (show decide (s.size ≤ 32) = false from decide_eq_false h32)
          clear h32
          go_wp2
          go_ret
          exact ⟨by rw [E0.out, C2.out, D.out]; rfl, HW.out⟩
theorem lex_plain.calls (a0 : ByteArray) (r : Bool) (w : World) (h : lex_plain.f a0 = some r) :
    Calls Tryd.prog 33 #[.string a0] w fun e w' => e = .returned (.bool r) ∧ Below w.heap.size w w' := by
  unfold lex_plain.f at h
  by_cases hs : a0.size ≤ 140737488351232
  · rw [if_pos hs] at h
    obtain rfl := Option.some.inj h
    exact plain_calls a0 hs w
  · rw [if_neg hs] at h; cases h
end Go.Proofs.YtnafcffecneebaaDoor.Print
