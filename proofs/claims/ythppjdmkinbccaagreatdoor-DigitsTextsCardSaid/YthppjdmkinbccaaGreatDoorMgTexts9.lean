/- Proved here: DigitsTexts, the card of the law: any bytes are read as the rational, or refused, as the document says. Without a condition. Written by wip/tools/claimtexts.py: these texts, one behind another, without what this claim does not use: PuRefB, PuRefC, PuOrder, PuNats, PuRats, PuParse, PuBack, PureDigitsTexts, LawDigitsTexts. -/
import Derived.Test.YthppjdmkinbccaaGreatDoorMgTexts8
import Derived.Test.YthppjdmkinbccaaGreatDoorMgTexts7
import Derived.Test.YthppjdmkinbccaaGreatDoorMgTexts6
import Derived.Test.YthppjdmkinbccaaGreatDoorMgTexts2
import Derived.Test.YthppjdmkinbccaaGreatDoorMgTexts3
import Derived.Test.YthppjdmkinbccaaGreatDoorMgTexts4
import Derived.Test.YthppjdmkinbccaaGreatDoorCards
import Derived.Test.YthppjdmkinbccaaGreatDoorTie
import Derived.WalkKit
import Derived.ProofKit
import Derived.OpenShut
import Derived.ShutString
import Derived.ChangeOld
import Derived.Below
import Derived.SizedLaws
import Derived.Lay
import Derived.Deep.DeepHandedRow
import Derived.Deep.DeepWitnessRowRef
import Derived.Lib.LaidTab
import Derived.Stop.LaidErr
import Derived.Test.YthppjdmkinbccaaGreatDoorMgTexts1
namespace Go.Proofs.YthppjdmkinbccaaGreatDoor.Ref
open Go.RowKit Go.Proofs.YthppjdmkinbccaaGreatDoorW.PrintWords Go.Proofs.YthppjdmkinbccaaGreatDoorW.PrintLast Go.Proofs.YthppjdmkinbccaaGreatDoor.Print Go.Proofs.YthppjdmkinbccaaGreatDoor.Base
set_option linter.unusedVariables false
set_option linter.unusedSimpArgs false
structure Quot (B V : Nat) (l out : List Int) (i : Nat) : Prop where
  len : out.length = l.length
  dig : DigB B out
  low : ∀ t, t < i → limbN out t = 0
  val : valB B out = B ^ i * (valB B (l.drop i) / V)
theorem Quot.start {B V : Nat} (hB : 0 < B) (l : List Int) : Quot B V l (List.replicate l.length 0) l.length := by
  refine ⟨by simp, DigB.zeros B hB _, fun t _ => ?_, by rw [valB_zeros, List.drop_length, valB_nil, Nat.zero_div, Nat.mul_zero]⟩
  unfold limbN
  rcases Nat.lt_or_ge t l.length with c | c
  · simp [c]
  · simp [Nat.not_lt.2 c]
theorem quot_step {B V d X : Nat} (hV : 0 < V) (hd : d < B) : (d + B * X) / V = B * (X / V) + (X % V * B + d) / V ∧ (d + B * X) % V = (X % V * B + d) % V ∧ (X % V * B + d) / V < B := by
  have e : d + B * X = (X % V * B + d) + V * (B * (X / V)) := by
    have h := Nat.mod_add_div X V
    have h2 : B * X = B * (X % V) + B * (V * (X / V)) := by rw [← Nat.mul_add, h]
    rw [h2, Nat.mul_left_comm B V, Nat.mul_comm B (X % V)]; omega
  refine ⟨by rw [e, Nat.add_mul_div_left _ _ hV]; omega, by rw [e, Nat.add_mul_mod_self_left], ?_⟩
  refine Nat.div_lt_of_lt_mul ?_
  have h1 : X % V + 1 ≤ V := Nat.mod_lt X hV
  have h2 := Nat.mul_le_mul_right B h1
  rw [Nat.add_mul, Nat.one_mul] at h2
  omega
theorem Quot.next {B V : Nat} {l out : List Int} {i : Nat} (h : Quot B V l out (i + 1)) (hB : 0 < B) (hV : 0 < V) (hl : DigB B l) (hi : i < l.length) {q : Int}
    (hq : q = (((valB B (l.drop (i + 1)) % V * B + limbN l i) / V : Nat) : Int)) : Quot B V l (out.set i q) i := by
  obtain ⟨h1, h2, h3⟩ := quot_step (X := valB B (l.drop (i + 1))) hV (limbN_lt hB hl i)
  have hio : i < out.length := by rw [h.len]; exact hi
  refine ⟨by rw [List.length_set]; exact h.len, fun x hx => ?_, fun t ht => ?_, ?_⟩
  · rcases List.mem_or_eq_of_mem_set hx with hx | hx
    · exact h.dig x hx
    · rw [hx, hq]; exact ⟨Int.natCast_nonneg _, Int.ofNat_lt.2 h3⟩
  · have := h.low t (by omega)
    unfold limbN at this ⊢
    simpa [show i ≠ t by omega] using this
  · have hs := valB_set (B := B) out i hio q
    have h0 := h.low i (by omega)
    unfold limbN at h0
    rw [h0, Nat.mul_zero, Nat.add_zero, h.val, hq, Int.toNat_natCast] at hs
    rw [hq, hs, valB_drop hi, h1, Nat.pow_succ, Nat.mul_add, Nat.mul_assoc]
theorem Quot.done {V : Nat} {l out : List Int} (h : Quot 10000 V l out 0) : valB 10000 out = valB 10000 l / V := by
  have := h.val
  rwa [Nat.pow_zero, Nat.one_mul, List.drop_zero] at this
theorem Quot.rest {B V : Nat} {l : List Int} {i : Nat} (hB : 0 < B) (hV : 0 < V) (hl : DigB B l) (hi : i < l.length) : valB B (l.drop i) % V = (valB B (l.drop (i + 1)) % V * B + limbN l i) % V := by
  rw [valB_drop hi]; exact (quot_step hV (limbN_lt hB hl i)).2.1
theorem short_loop {l : List Int} (hl : DigB 10000 l) (h9 : l.length ≤ 1000000) {d : Nat} (d0 : 0 < d) (d1 : d ≤ 4294967296) : ∀ (i : Nat) (out : List Int), i ≤ l.length → Quot 10000 d l out i →
    Ev (fun k => r1S.l0 k l (d : Int) out ((valB 10000 (l.drop i) % d : Nat) : Int) ((i : Int) - 1)) (digB 10000 (valB 10000 l / d), ((valB 10000 l % d : Nat) : Int))
  | 0, out, _, hq => by
    have ht := trim_ev hq.dig (by rw [hq.len]; omega)
    rw [hq.done] at ht
    refine Ev.step (fun k => ?_) (Ev.bind (f := fun _ t => some (t, ((valB 10000 l % d : Nat) : Int))) ht (Ev.now _))
    simp only [r1S.l0]
    rw [if_neg (by omega), List.drop_zero]
  | j + 1, out, hj, hq => by
    have hlim := limb_lt hl j
    have hr := Nat.mod_lt (valB 10000 (l.drop (j + 1))) d0
    have ih := short_loop hl h9 d0 d1 j _ (by omega) (hq.next (by decide) d0 hl (by omega) rfl)
    rw [Quot.rest (by decide) d0 hl (show j < l.length by omega)] at ih
    refine Ev.step (fun k => ?_) ih
    simp only [r1S.l0]
    have e1 : wrap64 ((wrap64 (((valB 10000 (l.drop (j + 1)) % d : Nat) : Int) * 10000)) + ((limbN l j : Nat) : Int)) = ((valB 10000 (l.drop (j + 1)) % d * 10000 + limbN l j : Nat) : Int) := by
      rw [show (10000 : Int) = ((10000 : Nat) : Int) from rfl, ← Int.natCast_mul, w64n (by omega), ← Int.natCast_add, w64n (by omega)]
    have hlt : (valB 10000 (l.drop (j + 1)) % d * 10000 + limbN l j) / d ≤ 9223372036854775807 := Nat.le_trans (Nat.div_le_self _ _) (by omega)
    rw [show ((j + 1 : Nat) : Int) - 1 = (j : Int) by omega, if_pos (by omega), if_pos (by omega), if_pos (by omega), if_neg (by omega), if_pos (by rw [hq.len]; omega), rd_limb hl, e1, tdiv_nat, tmod_nat, w64n hlt, w64 (by omega) (by omega), Int.toNat_natCast]
theorem short_ev {x d : Nat} (hx : (digB 10000 x).length ≤ 1000000) (d0 : 0 < d) (d1 : d ≤ 4294967296) : Ev (fun k => r1S.f k (digB 10000 x) (d : Int)) (digB 10000 (x / d), ((x % d : Nat) : Int)) := by
  have h := short_loop (T_good x).dig hx d0 d1 (digB 10000 x).length _ (by omega) (Quot.start (by decide) _)
  rw [T_val, List.drop_length, show valB 10000 [] % d = 0 by rw [valB_nil]; exact Nat.zero_mod d] at h
  refine Ev.congr (fun k => ?_) h
  unfold r1S.f
  rw [if_pos (by omega), if_pos (by omega), Int.toNat_natCast, w64 (by omega) (by omega)]; rfl
def nb (x : Nat) : Nat := if x = 0 then 0 else x.log2 + 1
theorem nb_half {x : Nat} (h : 0 < x) : nb x = nb (x / 2) + 1 := by
  unfold nb
  rw [if_neg (by omega)]
  by_cases h1 : x = 1
  · subst h1; rfl
  · rw [if_neg (by omega), show x.log2 = (x / 2).log2 + 1 by rw [Nat.log2_def x, if_pos (by omega)]]
theorem nb_le {x n : Nat} : nb x ≤ n ↔ x < 2 ^ n := by
  unfold nb
  by_cases h : x = 0
  · rw [if_pos h, h]; exact ⟨fun _ => Nat.pow_pos (by decide), fun _ => Nat.zero_le _⟩
  · rw [if_neg h, ← Nat.log2_lt h]; omega
theorem bits_loop : ∀ (n x c : Nat), x < 2 ^ n → (digB 10000 x).length ≤ 1000000 → c + n ≤ 1000000000 → Ev (fun k => r1B.l0 k (digB 10000 x) (c : Int)) ((c + nb x : Nat) : Int)
  | 0, x, c, h, _, _ => by
    obtain rfl : x = 0 := by simpa using h
    rw [digB_zero _ (by decide)]
    refine Ev.step (f := fun _ => some ((c : Nat) : Int)) (fun k => ?_) (Ev.now _)
    simp only [r1B.l0]; rw [if_neg (by simp)]
  | n + 1, x, c, h, hl, hc => by
    by_cases h0 : x = 0
    · subst h0
      rw [digB_zero _ (by decide)]
      refine Ev.step (f := fun _ => some ((c : Nat) : Int)) (fun k => ?_) (Ev.now _)
      simp only [r1B.l0]; rw [if_neg (by simp)]
    · have ih := bits_loop n (x / 2) (c + 1) (Nat.div_lt_of_lt_mul (by rw [Nat.pow_succ, Nat.mul_comm] at h; exact h)) (Nat.le_trans (T_len_le (Nat.div_le_self x 2)) hl) (by omega)
      have hs := short_ev hl (d := 2) (by decide) (by decide)
      rw [show ((2 : Nat) : Int) = 2 from rfl] at hs
      have hne : 0 < (digB 10000 x).length := Nat.pos_of_ne_zero (fun e => h0 ((digB_nil x).1 (List.eq_nil_of_length_eq_zero e)))
      rw [show c + nb x = c + 1 + nb (x / 2) by rw [nb_half (by omega)]; omega]
      refine Ev.step (fun k => ?_) (Ev.bind (f := fun k bt => r1B.l0 k bt.1 ((c + 1 : Nat) : Int)) hs ih)
      simp only [r1B.l0]
      rw [if_pos (by omega), w64 (by omega) (by omega)]; rfl
theorem bits_ev {x n : Nat} (h : x < 2 ^ n) (hl : (digB 10000 x).length ≤ 1000000) (hn : n ≤ 1000000000) : Ev (fun k => r1B.f k (digB 10000 x)) ((nb x : Nat) : Int) := by
  have := bits_loop n x 0 h hl (by omega)
  rw [Nat.zero_add] at this
  exact this
def bA (l : List UInt8) : ByteArray := ⟨l.toArray⟩
theorem piece (d : Nat) (h : d < 10) : (⟨#[48, 49, 50, 51, 52, 53, 54, 55, 56, 57]⟩ : ByteArray).extract d (d + 1) = bA [UInt8.ofNat (48 + d)] := by
  rcases (by omega : d = 0 ∨ d = 1 ∨ d = 2 ∨ d = 3 ∨ d = 4 ∨ d = 5 ∨ d = 6 ∨ d = 7 ∨ d = 8 ∨ d = 9) with rfl | rfl | rfl | rfl | rfl | rfl | rfl | rfl | rfl | rfl <;> rfl
theorem bt_lst (s : ByteArray) (i : Nat) (h : i < s.data.toList.length) : bt s (i : Int) = ((s.data.toList[i].toNat : Nat) : Int) := by
  rw [← bt_at s i (by simpa using h)]; rfl
theorem bt_bA (L : List UInt8) (i : Nat) (h : i < L.length) : bt (bA L) (i : Int) = ((L[i].toNat : Nat) : Int) := by
  have := bt_lst (bA L) i (by simpa [bA] using h)
  simpa [bA] using this
theorem bA_size (l : List UInt8) : (bA l).size = l.length := rfl
theorem bA_append (a b : List UInt8) : bA a ++ bA b = bA (a ++ b) := by
  refine Go.WideShapes.bytes_inj ?_
  rw [ByteArray.data_append, Array.toList_append]; simp [bA]
theorem four_f {d : Nat} (h : d < 10000) : fluxionref04_four.f (d : Int) = some (bA (padD 4 d)) := by
  have e1 : wrap64 (Int.tdiv (d : Int) 1000) = ((d / 1000 : Nat) : Int) := by rw [show (1000 : Int) = ((1000 : Nat) : Int) from rfl, tdiv_nat, w64n (by omega)]
  have e2 : Int.tmod (wrap64 (Int.tdiv (d : Int) 100)) 10 = ((d / 100 % 10 : Nat) : Int) := by rw [show (100 : Int) = ((100 : Nat) : Int) from rfl, tdiv_nat, w64n (by omega)]; rfl
  have e3 : Int.tmod (wrap64 (Int.tdiv (d : Int) 10)) 10 = ((d / 10 % 10 : Nat) : Int) := by rw [show (10 : Int) = ((10 : Nat) : Int) from rfl, tdiv_nat, w64n (by omega)]; rfl
  have e4 : Int.tmod (d : Int) 10 = ((d % 10 : Nat) : Int) := rfl
  unfold fluxionref04_four.f
  rw [e1, e2, e3, e4]
  have a0 : d / 1000 < 10 := by omega
  have a1 : d / 100 % 10 < 10 := by omega
  have a2 : d / 10 % 10 < 10 := by omega
  have a3 : d % 10 < 10 := by omega
  have ep : padD 4 d = [UInt8.ofNat (48 + d / 1000), UInt8.ofNat (48 + d / 100 % 10), UInt8.ofNat (48 + d / 10 % 10), UInt8.ofNat (48 + d % 10)] := by
    simp only [padD, List.nil_append, List.cons_append]
    rw [show d / 10 / 10 / 10 % 10 = d / 1000 by omega, show d / 10 / 10 % 10 = d / 100 % 10 by omega]
  rw [ep]
  generalize d / 1000 = n0 at a0 ⊢
  generalize d / 100 % 10 = n1 at a1 ⊢
  generalize d / 10 % 10 = n2 at a2 ⊢
  generalize d % 10 = n3 at a3 ⊢
  have q : ∀ n : Nat, n < 10 → wrap64 ((n : Int) + 1) = ((n + 1 : Nat) : Int) := fun n hn => by rw [w64 (by omega) (by omega)]; rfl
  simp only [q _ a0, q _ a1, q _ a2, q _ a3, Int.toNat_natCast, piece _ a0, piece _ a1, piece _ a2, piece _ a3, bA_append, bA_size, List.cons_append, List.nil_append, List.length_cons, List.length_nil]
  repeat rw [if_pos (by omega)]
theorem padD_join : ∀ (m k q r : Nat), r < 10 ^ m → padD (k + m) (q * 10 ^ m + r) = padD k q ++ padD m r
  | 0, k, q, r, h => by
    obtain rfl : r = 0 := by simpa using h
    simp [padD]
  | m + 1, k, q, r, h => by
    have hp : 10 ^ (m + 1) = 10 ^ m * 10 := Nat.pow_succ 10 m
    have h1 : r / 10 < 10 ^ m := Nat.div_lt_of_lt_mul (by rw [hp, Nat.mul_comm] at h; exact h)
    have ih := padD_join m k q (r / 10) h1
    have e : q * 10 ^ (m + 1) + r = 10 * (q * 10 ^ m + r / 10) + r % 10 := by
      rw [hp, ← Nat.mul_assoc]; omega
    show padD (k + m) ((q * 10 ^ (m + 1) + r) / 10) ++ [UInt8.ofNat (48 + (q * 10 ^ (m + 1) + r) % 10)] = padD k q ++ (padD m (r / 10) ++ [UInt8.ofNat (48 + r % 10)])
    rw [e, show (10 * (q * 10 ^ m + r / 10) + r % 10) / 10 = q * 10 ^ m + r / 10 by omega, show (10 * (q * 10 ^ m + r / 10) + r % 10) % 10 = r % 10 by omega, ih, List.append_assoc]
theorem nat_strip : ∀ (n : Nat) (pre s : List UInt8) (c : UInt8), pre.length = n → (∀ x ∈ pre, x = 48) → c ≠ 48 → ∀ i : Nat, i ≤ n → pre.length + s.length ≤ 9000000 →
    Ev (fun k => r4N.l1 k (bA (pre ++ c :: s)) (i : Int)) (bA (c :: s)) := by
  intro n pre s c hn hp hc
  have hsz : (bA (pre ++ c :: s)).size = n + 1 + s.length := by rw [bA_size, List.length_append, List.length_cons, hn]; omega
  have main : ∀ m i : Nat, i + m = n → pre.length + s.length ≤ 9000000 → Ev (fun k => r4N.l1 k (bA (pre ++ c :: s)) (i : Int)) (bA (c :: s)) := by
    intro m
    induction m with
    | zero =>
      intro i hi hb
      have hbt : bt (bA (pre ++ c :: s)) (i : Int) ≠ 48 := by
        rw [bt_bA _ _ (by simp; omega), List.getElem_append_right (by omega)]
        intro e
        apply hc
        have e2 : (c :: s)[i - pre.length]'(by simp; omega) = c := by simp [show i - pre.length = 0 by omega]
        rw [e2] at e
        exact UInt8.toNat_inj.1 (by have h48 : (48 : UInt8).toNat = 48 := rfl; omega)
      refine Ev.step (f := fun _ => some (bA (c :: s))) (fun k => ?_) (Ev.now _)
      simp only [r4N.l1]
      rw [if_pos (by omega), if_pos (by rw [hsz]; omega), if_neg hbt, if_pos (by rw [hsz]; omega)]
      congr 1
      refine Go.WideShapes.bytes_inj ?_
      rw [extract_list, Int.toNat_natCast, show i = pre.length by omega]
      show ((pre ++ c :: s).drop pre.length).take _ = c :: s
      rw [List.drop_left, List.take_of_length_le]
      rw [hsz, List.length_cons]; omega
    | succ m ih =>
      intro i hi hb
      have hbt : bt (bA (pre ++ c :: s)) (i : Int) = 48 := by
        rw [bt_bA _ _ (by simp; omega), List.getElem_append_left (by omega), hp _ (List.getElem_mem _)]; rfl
      refine Ev.step (fun k => ?_) (ih (i + 1) (by omega) hb)
      simp only [r4N.l1]
      rw [if_pos (by omega), if_pos (by rw [hsz]; omega), if_pos hbt, w64 (by omega) (by omega)]
      rfl
  intro i hi hb
  exact main (n - i) i (by omega) hb
theorem nat_loop {l : List Int} (hl : DigB 10000 l) (h9 : l.length ≤ 1000000) {R : ByteArray} (hR : Ev (fun k => r4N.l1 k (bA (padD (4 * l.length) (valB 10000 l))) 0) R) : ∀ i : Nat, i ≤ l.length →
    Ev (fun k => r4N.l0 k l (bA (padD (4 * (l.length - i)) (valB 10000 (l.drop i)))) ((i : Int) - 1)) R
  | 0, _ => by
    refine Ev.step (fun k => ?_) hR
    simp only [r4N.l0]; rw [if_neg (by omega), List.drop_zero]; rfl
  | j + 1, hj => by
    have ih := nat_loop hl h9 hR j (by omega)
    have hlim := limb_lt hl j
    have e : padD (4 * (l.length - j)) (valB 10000 (l.drop j)) = padD (4 * (l.length - (j + 1))) (valB 10000 (l.drop (j + 1))) ++ padD 4 (limbN l j) := by
      rw [valB_drop (B := 10000) (show j < l.length by omega), ← padD_join 4 _ _ _ hlim, show 4 * (l.length - (j + 1)) + 4 = 4 * (l.length - j) by omega, show (10 : Nat) ^ 4 = 10000 from rfl]
      congr 1; omega
    rw [e, ← bA_append] at ih
    refine Ev.step (fun k => ?_) ih
    simp only [r4N.l0]
    rw [show ((j + 1 : Nat) : Int) - 1 = (j : Int) by omega, if_pos (by omega), if_pos (by omega), if_pos (by omega), rd_limb hl, four_f hlim, Option.bind_some, if_pos (by rw [bA_size, bA_size, padD_length, padD_length]; omega), w64 (by omega) (by omega)]
theorem nat_ev {x : Nat} (h9 : (digB 10000 x).length ≤ 1000000) : Ev (fun k => r4N.f k (digB 10000 x)) (decB x) := by
  by_cases h0 : x = 0
  · subst h0
    refine Ev.congr (f := fun _ => some (decB 0)) (fun k => ?_) (Ev.now _)
    unfold r4N.f
    rw [digB_zero _ (by decide), if_pos (by simp)]
    unfold decB; rw [dec_small (by decide)]; rfl
  · have hne : 0 < (digB 10000 x).length := Nat.pos_of_ne_zero (fun e => h0 ((digB_nil x).1 (List.eq_nil_of_length_eq_zero e)))
    have hlt := valB_lt 10000 _ (T_good x).dig
    rw [T_val] at hlt
    obtain ⟨m, hm⟩ : ∃ m, 4 * (digB 10000 x).length = m + 1 := ⟨4 * (digB 10000 x).length - 1, by omega⟩
    have hlt2 : x < 10 ^ (m + 1) := by
      rw [← hm, Nat.pow_mul]; exact hlt
    obtain ⟨p1, p2⟩ := padD_dec m x hlt2
    have hh := (dec_num_all x).2.2 (by omega)
    have hs : Ev (fun k => r4N.l1 k (bA (padD (4 * (digB 10000 x).length) (valB 10000 (digB 10000 x)))) 0) (decB x) := by
      rw [T_val, hm, p2]
      unfold decB
      cases hd : Lib.decDigits x with
      | nil => exact absurd hd (dec_ne x)
      | cons c s =>
        rw [hd] at hh p1
        exact nat_strip _ _ s c rfl (fun y hy => List.eq_of_mem_replicate hy) (by simpa using hh) 0 (by omega) (by simp at p1 ⊢; omega)
    have h := nat_loop (T_good x).dig h9 hs (digB 10000 x).length (by omega)
    rw [List.drop_length, Nat.sub_self] at h
    refine Ev.congr (fun k => ?_) h
    unfold r4N.f
    rw [if_neg (by omega), w64 (by omega) (by omega)]; rfl
theorem natural_loop (s : ByteArray) (h9 : s.size ≤ 4611686018427387904) : ∀ (m i : Nat), i + m = s.size → Ev (fun k => r4nat.l0 k s (i : Int)) ((s.data.toList.drop i).all isDig && !(s.data.toList == [] || (decide (1 < s.data.toList.length) && s.data.toList.head? == some 48))) := by
  have hsz : s.data.toList.length = s.size := size_toList2 s
  intro m
  induction m with
  | zero =>
    intro i hi
    rw [List.drop_eq_nil_of_le (by omega), List.all_nil, Bool.true_and]
    refine Ev.step (f := fun _ => some (!(s.data.toList == [] || (decide (1 < s.data.toList.length) && s.data.toList.head? == some 48)))) (fun k => ?_) (Ev.now _)
    simp only [r4nat.l0]
    rw [if_neg (by omega)]
    by_cases h0 : s.size = 0
    · have hnil : s.data.toList = [] := List.eq_nil_of_length_eq_zero (by omega)
      rw [if_neg (by omega), hnil]; rfl
    · rw [if_pos (by omega), if_pos (by omega)]
      have hb : ∀ c r, s.data.toList = c :: r → bt s 0 = ((c.toNat : Nat) : Int) := fun c r e => by
        have hb := bt_lst s 0 (by omega)
        rw [List.getElem_of_eq e] at hb
        exact hb
      generalize s.data.toList = L at hb hsz ⊢
      cases L with
      | nil => simp at hsz; omega
      | cons c r =>
        rw [hb c r rfl]
        have h48 : (48 : UInt8).toNat = 48 := rfl
        by_cases c48 : c = 48
        · subst c48
          rw [if_pos (by omega)]
          congr 1
          by_cases h1 : s.size = 1
          · have hr : r = [] := List.eq_nil_of_length_eq_zero (by simp at hsz; omega)
            subst hr
            rw [h1]; rfl
          · have h2 : ((s.size : Int) == 1) = false := by rw [beq_eq_false_iff_ne]; omega
            rw [h2, decide_eq_true (show 1 < ((48 : UInt8) :: r).length by rw [hsz]; omega)]; rfl
        · have hne : ((c.toNat : Nat) : Int) ≠ 48 := fun e => c48 (UInt8.toNat_inj.1 (by omega))
          rw [if_neg hne]
          simp [c48]
  | succ m ih =>
    intro i hi
    have hi2 : i < s.data.toList.length := by omega
    rw [List.drop_eq_getElem_cons hi2, List.all_cons]
    have hb := bt_lst s i hi2
    generalize s.data.toList[i] = x at hb ⊢
    by_cases hd : isDig x = true
    · rw [hd, Bool.true_and]
      refine Ev.step (fun k => ?_) (ih (i + 1) (by omega))
      simp [isDig] at hd
      simp only [r4nat.l0]
      rw [if_pos (by omega), if_pos (by omega), hb, if_neg (by simp at hd ⊢; omega), if_neg (by simp at hd ⊢; omega), w64 (by omega) (by omega)]; rfl
    · have hd2 : isDig x = false := by simpa using hd
      rw [hd2, Bool.false_and, Bool.false_and]
      refine Ev.step (f := fun _ => some false) (fun k => ?_) (Ev.now _)
      simp only [r4nat.l0]
      rw [if_pos (by omega), if_pos (by omega), hb]
      have h3 : x.toNat < 48 ∨ 57 < x.toNat := by
        unfold isDig at hd2
        rcases Bool.and_eq_false_iff.1 hd2 with h | h <;> simp at h <;> omega
      rcases h3 with h | h
      · rw [if_pos (by omega)]
      · rw [if_neg (by omega), if_pos (by omega)]
theorem natural_ev (s : ByteArray) (h9 : s.size ≤ 4611686018427387904) : Ev (fun k => r4nat.f k s) (natB s.data.toList) := by
  have h := natural_loop s h9 s.size 0 (by omega)
  rw [List.drop_zero, Bool.and_comm] at h
  exact h
theorem number_loop (s : ByteArray) (hd : DigL s.data.toList) (h9 : s.size ≤ 1000) : ∀ (m i : Nat), i + m = s.size → Ev (fun k => r4nr.l0 k s (digB 10000 (numD (s.data.toList.take i))) (i : Int)) (digB 10000 (numD s.data.toList)) := by
  have hsz : s.data.toList.length = s.size := size_toList2 s
  intro m
  induction m with
  | zero =>
    intro i hi
    rw [List.take_of_length_le (by omega)]
    refine Ev.step (f := fun _ => some (digB 10000 (numD s.data.toList))) (fun k => ?_) (Ev.now _)
    simp only [r4nr.l0]; rw [if_neg (by omega)]
  | succ m ih =>
    intro i hi
    have hi2 : i < s.data.toList.length := by omega
    have hb := bt_lst s i hi2
    have hdi := hd _ (List.getElem_mem hi2)
    have ih := ih (i + 1) (by omega)
    rw [List.take_succ_eq_append_getElem hi2, numD_snoc] at ih
    have hlt := numD_lt _ (fun x hx => hd x (List.mem_of_mem_take hx) : DigL (s.data.toList.take i))
    rw [List.length_take, Nat.min_eq_left (by omega)] at hlt
    generalize numD (s.data.toList.take i) = v at ih hlt ⊢
    generalize hc : s.data.toList[i].toNat - 48 = c at ih
    have hv : v < 10000 ^ i := Nat.lt_of_lt_of_le hlt (Nat.pow_le_pow_left (by decide) i)
    have hv2 : v * 10 < 10000 ^ (i + 1) := by
      rw [Nat.pow_succ]; exact Nat.lt_of_lt_of_le (Nat.mul_lt_mul_of_pos_right hv (by decide)) (Nat.mul_le_mul_left _ (by decide))
    have l1 := digB_len (by decide) hv
    have l2 := digB_len (by decide) hv2
    have l3 := digB_len (B := 10000) (v := c) (n := 1) (by decide) (by rw [Nat.pow_one]; omega)
    rw [show 10 * v + c = v * 10 + c by omega] at ih
    have s2 := Ev.bind (f := fun k t => r4nr.l0 k s t ((i + 1 : Nat) : Int)) (add_ev (x := v * 10) (y := c) (by omega) (by omega)) ih
    have s1 := Ev.bind (f := fun k t => (r1Add.f k (digB 10000 (v * 10)) t).bind fun u => r4nr.l0 k s u ((i + 1 : Nat) : Int)) (small_ev (v := c) (by omega)) s2
    have s0 := Ev.bind (f := fun k t => (r1Sm.f k (c : Int)).bind fun w => (r1Add.f k t w).bind fun u => r4nr.l0 k s u ((i + 1 : Nat) : Int)) (times_ten (x := v) (by omega)) s1
    refine Ev.step (fun k => ?_) s0
    have p0 : (0 : Int) ≤ (i : Int) := by omega
    have p1 : (i : Int) < (s.size : Int) := by omega
    have p2 : wrap64 ((i : Int) + 1) = ((i + 1 : Nat) : Int) := by rw [w64 (by omega) (by omega)]; rfl
    have p3 : wrap64 (wrap64 (bt s (i : Int)) - 48) = (c : Int) := by rw [hb, w64n (by omega), w64 (by omega) (by omega)]; omega
    simp only [r4nr.l0, if_pos p0, if_pos p1, p2, p3]
theorem number_ev (s : ByteArray) (hd : DigL s.data.toList) (h9 : s.size ≤ 1000) : Ev (fun k => r4nr.f k s) (digB 10000 (numD s.data.toList)) := by
  have h := number_loop s hd h9 s.size 0 (by omega)
  rw [List.take_zero, show numD [] = 0 from rfl, digB_zero _ (by decide)] at h
  exact h
theorem limbs_most (n a : Nat) (h : n = a * 32) (ha : a = 32) : (4294967296 : Nat) ^ 32 = 2 ^ n := by
  rw [h, Nat.pow_mul, ha]
def refNat (l : List UInt8) : List Int × Int := if natB l = true then (if 400 < l.length then ([], 14) else if numD l < 4294967296 ^ 32 then (digB 10000 (numD l), 0) else ([], 14)) else ([], 19)
theorem parse_ev (s : ByteArray) (h9 : s.size ≤ 4611686018427387904) : Ev (fun k => r4PN.f k s) (refNat s.data.toList) := by
  have hsz : s.data.toList.length = s.size := size_toList2 s
  unfold refNat
  refine Ev.congr (fun k => rfl) (Ev.bind (f := fun k t => if t = true then (if (s.size : Int) > 400 then (some (([] : List Int), 14)) else ((r4nr.f k s).bind fun t269 => ((r1B.f k t269).bind fun t272 => (if t272 > 1024 then (some (([] : List Int), 14)) else (some (t269, 0)))))) else (some (([] : List Int), 19))) (natural_ev s h9) ?_)
  by_cases hn : natB s.data.toList = true
  · by_cases h4 : 400 < s.size
    · refine Ev.congr (f := fun _ => some (([] : List Int), 14)) (fun k => ?_) (by rw [if_pos hn, if_pos (by omega)]; exact Ev.now _)
      rw [hn, if_pos rfl, if_pos (by omega)]
    · have hd := (natB_iff.1 hn).2.1
      have hlt := numD_lt _ hd
      rw [hsz] at hlt
      have hlt2 : numD s.data.toList < 10000 ^ s.size := Nat.lt_of_lt_of_le hlt (Nat.pow_le_pow_left (by decide) _)
      have l1 := digB_len (by decide) hlt2
      have hlt3 : numD s.data.toList < 2 ^ (4 * s.size) := by rw [Nat.pow_mul]; exact Nat.lt_of_lt_of_le hlt (Nat.pow_le_pow_left (by decide) _)
      have hb := bits_ev hlt3 (by omega) (by omega)
      rw [if_pos hn, if_neg (by omega)]
      refine Ev.congr (f := fun k => (r4nr.f k s).bind fun t269 => ((r1B.f k t269).bind fun t272 => (if t272 > 1024 then (some (([] : List Int), 14)) else (some (t269, 0))))) (fun k => ?_) (Ev.bind (number_ev s hd (by omega)) (Ev.bind hb ?_))
      · rw [hn, if_pos rfl, if_neg (by omega)]
      · obtain ⟨n, hn2⟩ : ∃ n : Nat, n = 1024 := ⟨_, rfl⟩
        rw [limbs_most n 32 (by omega) rfl]
        by_cases hc : nb (numD s.data.toList) ≤ n
        · rw [if_pos (nb_le.1 hc), if_neg (by omega)]; exact Ev.now _
        · rw [if_neg (fun c => hc (nb_le.2 c)), if_pos (by omega)]; exact Ev.now _
  · refine Ev.congr (f := fun _ => some (([] : List Int), 19)) (fun k => ?_) (by rw [if_neg hn]; exact Ev.now _)
    rw [if_neg hn]
end Go.Proofs.YthppjdmkinbccaaGreatDoor.Ref

namespace Go.Proofs.YthppjdmkinbccaaGreatDoor.Ref
open Go.RowKit Go.Proofs.YthppjdmkinbccaaGreatDoorW.PrintWords Go.Proofs.YthppjdmkinbccaaGreatDoorW.PrintLast Go.Proofs.YthppjdmkinbccaaGreatDoor.Print Go.Proofs.YthppjdmkinbccaaGreatDoor.Base
set_option linter.unusedVariables false
set_option linter.unusedSimpArgs false
theorem valB_snoc (B : Nat) (l : List Int) (d : Int) : valB B (l ++ [d]) = valB B l + B ^ l.length * d.toNat := by
  rw [valB_append, valB_cons, valB_nil, Nat.mul_zero, Nat.add_zero]
theorem sub_loop {a b : List Int} (da : DigB 10000 a) (db : DigB 10000 b) (hl : b.length ≤ a.length) (h9 : a.length ≤ 1000000) (hle : valB 10000 b ≤ valB 10000 a) : ∀ (m i : Nat) (acc : List Int) (less : Nat), i + m = a.length → acc.length = i → DigB 10000 acc → less ≤ 1 →
    valB 10000 acc + sumB 10000 (limbN b) i = sumB 10000 (limbN a) i + 10000 ^ i * less →
    Ev (fun k => r1Sub.l0 k a b acc (less : Int) (i : Int)) (digB 10000 (valB 10000 a - valB 10000 b), true) := by
  intro m
  induction m with
  | zero =>
    intro i acc less hi hac dac hless inv
    rw [sumB_limb b i (by omega), sumB_limb a i (by omega)] at inv
    have hlt := valB_lt 10000 acc dac
    rw [hac] at hlt
    have h0 : less = 0 := by
      rcases Nat.eq_zero_or_pos less with h | h
      · exact h
      · exfalso
        have : less = 1 := by omega
        rw [this, Nat.mul_one] at inv
        omega
    rw [h0, Nat.mul_zero, Nat.add_zero] at inv
    have ht := trim_ev dac (by omega)
    rw [show valB 10000 acc = valB 10000 a - valB 10000 b by omega] at ht
    refine Ev.step (fun k => ?_) (Ev.bind (f := fun _ t => some (t, true)) ht (Ev.now _))
    simp only [r1Sub.l0]
    rw [if_neg (by omega)]
  | succ m ih =>
    intro i acc less hi hac dac hless inv
    have h1 := limb_lt da i
    have h2 := limb_lt db i
    have e1 : wrap64 (wrap64 (((limbN a i : Nat) : Int) - ((limbN b i : Nat) : Int)) - (less : Int)) = ((limbN a i : Nat) : Int) - ((limbN b i : Nat) : Int) - (less : Int) := by
      rw [w64 (x := ((limbN a i : Nat) : Int) - ((limbN b i : Nat) : Int)) (by omega) (by omega), w64 (by omega) (by omega)]
    have eb : sumB 10000 (limbN b) (i + 1) = sumB 10000 (limbN b) i + 10000 ^ i * limbN b i := rfl
    have ea : sumB 10000 (limbN a) (i + 1) = sumB 10000 (limbN a) i + 10000 ^ i * limbN a i := rfl
    have step : ∀ (d l2 : Nat), d < 10000 → l2 ≤ 1 → d + limbN b i + less = limbN a i + 10000 * l2 → Ev (fun k => r1Sub.l0 k a b (acc ++ [(d : Int)]) (l2 : Int) ((i + 1 : Nat) : Int)) (digB 10000 (valB 10000 a - valB 10000 b), true) := by
      intro d l2 hd hl2 he
      refine ih (i + 1) _ l2 (by omega) (by simp [hac]) (dac.append (DigB.cons (by omega) (by omega) (DigB.nil _))) hl2 ?_
      rw [valB_snoc, hac, Int.toNat_natCast, eb, ea, Nat.pow_succ, Nat.mul_assoc]
      have h3 := congrArg (10000 ^ i * ·) he
      simp only [Nat.mul_add] at h3
      omega
    by_cases c : limbN a i < limbN b i + less
    · have hs := step (limbN a i + 10000 - limbN b i - less) 1 (by omega) (by omega) (by omega)
      refine Ev.step (fun k => ?_) hs
      simp only [r1Sub.l0]
      rw [if_pos (by omega), if_pos (by omega), digit_f db, Option.bind_some, rd_limb da, e1, if_pos (by omega), if_pos (by omega), w64 (by omega) (by omega), w64 (by omega) (by omega),
        show ((limbN a i : Nat) : Int) - ((limbN b i : Nat) : Int) - (less : Int) + 10000 = ((limbN a i + 10000 - limbN b i - less : Nat) : Int) by omega]
      rfl
    · have hs := step (limbN a i - limbN b i - less) 0 (by omega) (by omega) (by omega)
      refine Ev.step (fun k => ?_) hs
      simp only [r1Sub.l0]
      rw [if_pos (by omega), if_pos (by omega), digit_f db, Option.bind_some, rd_limb da, e1, if_neg (by omega), if_pos (by omega), w64 (by omega) (by omega),
        show ((limbN a i : Nat) : Int) - ((limbN b i : Nat) : Int) - (less : Int) = ((limbN a i - limbN b i - less : Nat) : Int) by omega]
      rfl
theorem sub_ev {x y : Nat} (hx : (digB 10000 x).length ≤ 1000000) (h : y ≤ x) : Ev (fun k => r1Sub.f k (digB 10000 x) (digB 10000 y)) (digB 10000 (x - y), true) := by
  have hs := sub_loop (T_good x).dig (T_good y).dig (T_len_le h) hx (by rw [T_val, T_val]; exact h) (digB 10000 x).length 0 [] 0 (by omega) rfl (DigB.nil _) (by omega) rfl
  rw [T_val, T_val] at hs
  refine Ev.congr (fun k => rfl) (Ev.bind (f := fun k t => if t < 0 then some (([] : List Int), false) else r1Sub.l0 k (digB 10000 x) (digB 10000 y) [] 0 0) (cmp_ev x y (by omega)) ?_)
  refine Ev.congr (fun k => ?_) hs
  rw [if_neg (by unfold cmpN; rw [if_neg (by omega)]; split <;> omega)]; rfl
theorem digit2_loop {r y : Nat} (hy : (digB 10000 y).length ≤ 900000) : ∀ (m low high : Nat), high - low ≤ m → low < high → high ≤ 10000 → low * y ≤ r → r < high * y → Ev (fun k => r2d.l0 k (digB 10000 r) (digB 10000 y) (low : Int) (high : Int)) ((r / y : Nat) : Int) := by
  intro m
  induction m with
  | zero => intro low high h1 h2; omega
  | succ m ih =>
    intro low high h1 h2 h3 h4 h5
    by_cases c : high - low ≤ 1
    · have e : high = low + 1 := by omega
      subst e
      have hy0 : 0 < y := Nat.pos_of_ne_zero (fun h => by rw [h, Nat.mul_zero] at h5; omega)
      have hq : r / y = low := by
        rw [Nat.div_eq_iff hy0]
        rw [Nat.add_mul, Nat.one_mul] at h5
        omega
      rw [hq]
      refine Ev.step (f := fun _ => some ((low : Nat) : Int)) (fun k => ?_) (Ev.now _)
      simp only [r2d.l0]
      rw [w64 (by omega) (by omega), if_neg (by omega)]
    · have ht := times_ev (x := y) (d := (low + high) / 2) (by omega) (by omega)
      have hyb := valB_lt 10000 _ (T_good y).dig
      rw [T_val] at hyb
      have hl : (digB 10000 (y * ((low + high) / 2))).length ≤ (digB 10000 y).length + 1 := by
        refine digB_len (by decide) ?_
        rw [Nat.pow_succ]
        exact Nat.lt_of_lt_of_le (Nat.mul_lt_mul_of_pos_right hyb (by omega)) (Nat.mul_le_mul_left _ (by omega))
      have hc := cmp_ev (y * ((low + high) / 2)) r (by omega)
      have e1 : wrap64 (Int.tdiv (wrap64 ((low : Int) + (high : Int))) 2) = (((low + high) / 2 : Nat) : Int) := by
        rw [← Int.natCast_add, w64n (by omega), show (2 : Int) = ((2 : Nat) : Int) from rfl, tdiv_nat, w64n (by omega)]
      have fin : Ev (fun k => if cmpN (y * ((low + high) / 2)) r ≤ 0 then r2d.l0 k (digB 10000 r) (digB 10000 y) (((low + high) / 2 : Nat) : Int) (high : Int) else r2d.l0 k (digB 10000 r) (digB 10000 y) (low : Int) (((low + high) / 2 : Nat) : Int)) ((r / y : Nat) : Int) := by
        by_cases g : y * ((low + high) / 2) ≤ r
        · refine Ev.congr (fun k => ?_) (ih ((low + high) / 2) high (by omega) (by omega) h3 (by rw [Nat.mul_comm]; exact g) h5)
          rw [if_pos (by unfold cmpN; split; · omega
                         · rw [if_neg (by omega)]; omega)]
        · refine Ev.congr (fun k => ?_) (ih low ((low + high) / 2) (by omega) (by omega) (by omega) h4 (by rw [Nat.mul_comm]; omega))
          rw [if_neg (by unfold cmpN; rw [if_neg (by omega), if_pos (by omega)]; omega)]
      refine Ev.step (fun k => ?_) (Ev.bind (f := fun k t => (r1Cmp.f k t (digB 10000 r)).bind fun u => if u ≤ 0 then r2d.l0 k (digB 10000 r) (digB 10000 y) (((low + high) / 2 : Nat) : Int) (high : Int) else r2d.l0 k (digB 10000 r) (digB 10000 y) (low : Int) (((low + high) / 2 : Nat) : Int)) ht (Ev.bind (f := fun k u => if u ≤ 0 then r2d.l0 k (digB 10000 r) (digB 10000 y) (((low + high) / 2 : Nat) : Int) (high : Int) else r2d.l0 k (digB 10000 r) (digB 10000 y) (low : Int) (((low + high) / 2 : Nat) : Int)) hc fin))
      simp only [r2d.l0]
      rw [w64 (by omega) (by omega), if_pos (by omega), e1]
theorem digit2_ev {r y : Nat} (hy : (digB 10000 y).length ≤ 900000) (h : r < 10000 * y) : Ev (fun k => r2d.f k (digB 10000 r) (digB 10000 y)) ((r / y : Nat) : Int) :=
  digit2_loop hy 10000 0 10000 (by omega) (by omega) (by omega) (by omega) h
theorem trim2_loop (l : List Int) (hl : l.length ≤ 4611686018427387904) : ∀ i : Nat, i ≤ l.length → Ev (fun k => r2t.l0 k l (i : Int)) (trimL (l.take i))
  | 0, _ => by
    refine Ev.step (f := fun _ => some []) (fun k => ?_) (Ev.now _)
    simp only [r2t.l0]
    rw [if_neg (by omega), if_pos (by omega), if_pos (by omega)]; rfl
  | i + 1, hi => by
    have hw : wrap64 (((i + 1 : Nat) : Int) - 1) = (i : Int) := by rw [w64 (by omega) (by omega)]; omega
    rw [take_snoc (by omega)]
    by_cases h0 : rd l (i : Int) = 0
    · rw [h0, trimL_snoc_zero]
      refine Ev.step (fun k => ?_) (trim2_loop l hl i (by omega))
      simp only [r2t.l0]
      rw [hw, if_pos (by omega), if_pos (by omega), if_pos (by omega), if_pos h0]
    · rw [trimL_snoc _ _ h0]
      refine Ev.step (f := fun _ => some (l.take (i + 1))) (fun k => ?_) (by rw [take_snoc (by omega)]; exact Ev.now _)
      simp only [r2t.l0]
      rw [hw, if_pos (by omega), if_pos (by omega), if_pos (by omega), if_neg h0, if_pos (by omega), if_pos (by omega)]; rfl
theorem trim2_ev {l : List Int} (hd : DigB 10000 l) (hl : l.length ≤ 4611686018427387904) : Ev (fun k => r2t.f k l) (digB 10000 (valB 10000 l)) := by
  have h := trim2_loop l hl l.length (by omega)
  rw [List.take_length, trimL_eq (by decide) hd] at h
  exact h
theorem div_loop {x : List Int} (dx : DigB 10000 x) (h9 : x.length ≤ 800000) {y : Nat} (hy : (digB 10000 y).length ≤ 800000) (y0 : 0 < y) : ∀ (i : Nat) (out : List Int), i ≤ x.length → Quot 10000 y x out i →
    Ev (fun k => r2DM.l0 k x (digB 10000 y) out (digB 10000 (valB 10000 (x.drop i) % y)) ((i : Int) - 1)) (digB 10000 (valB 10000 x / y), digB 10000 (valB 10000 x % y))
  | 0, out, _, hq => by
    have ht := trim2_ev hq.dig (by rw [hq.len]; omega)
    rw [hq.done] at ht
    refine Ev.step (fun k => ?_) (Ev.bind (f := fun _ t => some (t, digB 10000 (valB 10000 x % y))) ht (Ev.now _))
    simp only [r2DM.l0]
    rw [if_neg (by omega), List.drop_zero]
  | j + 1, out, hj, hq => by
    have hlim := limb_lt dx j
    have hr := Nat.mod_lt (valB 10000 (x.drop (j + 1))) y0
    obtain ⟨q1, q2, q3⟩ := quot_step (B := 10000) (X := valB 10000 (x.drop (j + 1))) y0 hlim
    have hnext := hq.next (by decide) y0 dx (show j < x.length by omega) rfl
    have ih := div_loop dx h9 hy y0 j _ (by omega) hnext
    rw [Quot.rest (by decide) y0 dx (show j < x.length by omega)] at ih
    generalize valB 10000 (x.drop (j + 1)) % y = r at hr q1 q2 q3 ih ⊢
    have hyb := valB_lt 10000 _ (T_good y).dig
    rw [T_val] at hyb
    have hR : r * 10000 + limbN x j < 10000 * y := by omega
    have hRl : (digB 10000 (r * 10000 + limbN x j)).length ≤ (digB 10000 y).length + 1 := by
      refine digB_len (by decide) ?_
      rw [Nat.pow_succ]
      exact Nat.lt_of_lt_of_le hR (by rw [Nat.mul_comm]; exact Nat.mul_le_mul_right _ (by omega))
    have hrl := T_len_le (Nat.le_of_lt hr)
    have dcat : DigB 10000 ([((limbN x j : Nat) : Int)] ++ digB 10000 r) := DigB.cons (by omega) (by omega) (T_good r).dig
    have ecat : valB 10000 ([((limbN x j : Nat) : Int)] ++ digB 10000 r) = r * 10000 + limbN x j := by
      rw [List.singleton_append, valB_cons, T_val, Int.toNat_natCast]; omega
    have t1 := trim2_ev dcat (by simp; omega)
    rw [ecat] at t1
    have t2 := digit2_ev (by omega) hR
    generalize hRr : r * 10000 + limbN x j = R at t1 t2 ih hR hRl q1 q2 q3
    have hRy : R / y < 10000 := q3
    have t3 := times_ev (x := y) (d := R / y) (by omega) (by omega)
    have hmul : y * (R / y) ≤ R := Nat.mul_div_le R y
    have t4 := sub_ev (x := R) (y := y * (R / y)) (by omega) hmul
    rw [show R - y * (R / y) = R % y by have := Nat.mod_add_div R y; omega] at t4
    have p1 : ∀ k, r2DM.l0 (k + 1) x (digB 10000 y) out (digB 10000 r) (((j + 1 : Nat) : Int) - 1) = (r2t.f k ([((limbN x j : Nat) : Int)] ++ digB 10000 r)).bind fun t199 => (r2d.f k t199 (digB 10000 y)).bind fun t202 => (r1Times.f k (digB 10000 y) t202).bind fun t204 => (r1Sub.f k t199 t204).bind fun bt207 => r2DM.l0 k x (digB 10000 y) (out.set j t202) bt207.1 ((j : Int) - 1) := by
      intro k
      have c0 : (0 : Int) ≤ (j : Int) := by omega
      have c1 : (j : Int) < (x.length : Int) := by omega
      have c2 : (j : Int) < (out.length : Int) := by rw [hq.len]; omega
      have c3 : wrap64 ((j : Int) - 1) = (j : Int) - 1 := w64 (by omega) (by omega)
      have c4 : ((j + 1 : Nat) : Int) - 1 = (j : Int) := by omega
      have c5 : ([((limbN x j : Nat) : Int)] : List Int).length + (digB 10000 r).length < 17592186044416 := by simp; omega
      simp only [r2DM.l0, c4, ge_iff_le, if_pos c0, if_pos c1, rd_limb dx, Option.bind_some, if_pos c5, if_pos c2, c3, Int.toNat_natCast]
    refine Ev.step p1 (Ev.bind t1 (Ev.bind t2 (Ev.bind t3 (Ev.bind t4 ?_))))
    exact ih
theorem divmod_ev {x y : Nat} (hx : (digB 10000 x).length ≤ 800000) (hy : (digB 10000 y).length ≤ 800000) (y0 : 0 < y) : Ev (fun k => r2DM.f k (digB 10000 x) (digB 10000 y)) (digB 10000 (x / y), digB 10000 (x % y)) := by
  have h := div_loop (T_good x).dig hx hy y0 (digB 10000 x).length _ (by omega) (Quot.start (by decide) _)
  rw [T_val, List.drop_length, show valB 10000 [] % y = 0 by rw [valB_nil]; exact Nat.zero_mod y, digB_zero _ (by decide)] at h
  refine Ev.congr (fun k => ?_) h
  unfold r2DM.f
  rw [if_pos (by omega), if_pos (by omega), Int.toNat_natCast, w64 (by omega) (by omega)]
theorem gcd_loop : ∀ (m x y : Nat), y < m → (digB 10000 x).length ≤ 800000 → (digB 10000 y).length ≤ 800000 → Ev (fun k => fluxionref02_Gcd.l0 k (digB 10000 x) (digB 10000 y)) (digB 10000 (Nat.gcd x y)) := by
  intro m
  induction m with
  | zero => intro x y h; omega
  | succ m ih =>
    intro x y h hx hy
    by_cases h0 : y = 0
    · subst h0
      rw [digB_zero _ (by decide), Nat.gcd_zero_right]
      refine Ev.step (f := fun _ => some (digB 10000 x)) (fun k => ?_) (Ev.now _)
      simp only [fluxionref02_Gcd.l0]; rw [if_neg (by simp)]
    · have hlt := Nat.mod_lt x (show 0 < y by omega)
      have hne : 0 < (digB 10000 y).length := Nat.pos_of_ne_zero (fun e => h0 ((digB_nil y).1 (List.eq_nil_of_length_eq_zero e)))
      have hi := ih y (x % y) (by omega) hy (Nat.le_trans (T_len_le (Nat.le_of_lt hlt)) hy)
      rw [← gcd_rests x y (by omega)] at hi
      refine Ev.step (fun k => ?_) (Ev.bind (f := fun k bt => fluxionref02_Gcd.l0 k (digB 10000 y) bt.2) (divmod_ev hx hy (by omega)) hi)
      simp only [fluxionref02_Gcd.l0]; rw [if_pos (by omega)]
theorem gcd_ev {x y : Nat} (hx : (digB 10000 x).length ≤ 800000) (hy : (digB 10000 y).length ≤ 800000) : Ev (fun k => fluxionref02_Gcd.f k (digB 10000 x) (digB 10000 y)) (digB 10000 (Nat.gcd x y)) :=
  gcd_loop (y + 1) x y (by omega) hx hy
def ratN (n : Bool) (x y : Nat) : Bool × Nat × Nat := if x = 0 ∨ y = 0 then (false, 0, 1) else (n, x / Nat.gcd x y, y / Nat.gcd x y)
def ratL (B : Nat) (r : Bool × Nat × Nat) : Bool × List Int × List Int := (r.1, digB B r.2.1, digB B r.2.2)
theorem make_ev {n : Bool} {x y : Nat} (hx : (digB 10000 x).length ≤ 800000) (hy : (digB 10000 y).length ≤ 800000) : Ev (fun k => r3M.f k n (digB 10000 x) (digB 10000 y)) (ratL 10000 (ratN n x y)) := by
  have zero : x = 0 ∨ y = 0 → Ev (fun k => r3M.j0 k n (digB 10000 x) (digB 10000 y) true) (ratL 10000 (ratN n x y)) := by
    intro h
    refine Ev.step (f := fun _ => some (false, ([] : List Int), ([1] : List Int))) (fun k => ?_) ?_
    · simp only [r3M.j0]; rfl
    · unfold ratN ratL
      rw [if_pos h]
      show Ev _ (false, digB 10000 0, digB 10000 1)
      rw [digB_zero _ (by decide), digB_small (by decide) (by decide) (by decide)]; exact Ev.now _
  have len0 : ∀ v : Nat, ((digB 10000 v).length : Int) = 0 ↔ v = 0 := fun v => by
    rw [← digB_nil v]
    constructor
    · intro h; exact List.eq_nil_of_length_eq_zero (by omega)
    · intro h; rw [h]; rfl
  by_cases hx0 : x = 0
  · refine Ev.congr (fun k => ?_) (zero (Or.inl hx0))
    unfold r3M.f; rw [if_pos ((len0 x).2 hx0)]
  · by_cases hy0 : y = 0
    · refine Ev.congr (fun k => ?_) (zero (Or.inr hy0))
      unfold r3M.f; rw [if_neg (fun h => hx0 ((len0 x).1 h)), show (((digB 10000 y).length : Int) == 0) = true from beq_iff_eq.2 ((len0 y).2 hy0)]
    · have hg : 0 < Nat.gcd x y := Nat.gcd_pos_of_pos_left _ (by omega)
      have hgl : (digB 10000 (Nat.gcd x y)).length ≤ 800000 := Nat.le_trans (T_len_le (Nat.gcd_le_left _ (by omega))) hx
      have e : ratN n x y = (n, x / Nat.gcd x y, y / Nat.gcd x y) := by unfold ratN; rw [if_neg (by omega)]
      rw [e]
      have d1 := divmod_ev hx hgl hg
      have d2 := divmod_ev hy hgl hg
      refine Ev.congr (f := fun k => r3M.j0 k n (digB 10000 x) (digB 10000 y) false) (fun k => ?_) (Ev.step (f := fun k => (fluxionref02_Gcd.f k (digB 10000 x) (digB 10000 y)).bind fun t221 => (r2DM.f k (digB 10000 x) t221).bind fun bt224 => (r2DM.f k (digB 10000 y) t221).bind fun bt230 => some (n, bt224.1, bt230.1)) (fun k => ?_) (Ev.bind (gcd_ev hx hy) (Ev.bind d1 (Ev.bind d2 (Ev.now _)))))
      · unfold r3M.f; rw [if_neg (fun h => hx0 ((len0 x).1 h)), show (((digB 10000 y).length : Int) == 0) = false by rw [beq_eq_false_iff_ne]; exact fun h => hy0 ((len0 y).1 h)]
      · simp only [r3M.j0]; rw [if_neg (by decide)]
end Go.Proofs.YthppjdmkinbccaaGreatDoor.Ref

namespace Go.Proofs.YthppjdmkinbccaaGreatDoor.Base
open Go.RowKit Go.Proofs.YthppjdmkinbccaaGreatDoorW.PrintWords Go.Proofs.YthppjdmkinbccaaGreatDoorW.PrintLast Go.Proofs.YthppjdmkinbccaaGreatDoor.Print
set_option linter.unusedVariables false
set_option linter.unusedSimpArgs false
set_option maxRecDepth 100000 in
theorem known_ev : kn9.f 3 = some true := by decide +kernel
theorem known_evK : ∀ k, 3 ≤ k → kn9.f k = some true := by
  intro k hk
  induction k with
  | zero => omega
  | succ n ih =>
    rcases Nat.lt_or_ge n 3 with h | h
    · obtain rfl : n = 2 := by omega
      exact known_ev
    · exact kn9.mono n true (ih h)
end Go.Proofs.YthppjdmkinbccaaGreatDoor.Base

namespace Go.Proofs.YthppjdmkinbccaaGreatDoor.Ref
open Go.RowKit Go.Proofs.YthppjdmkinbccaaGreatDoorW.PrintWords Go.Proofs.YthppjdmkinbccaaGreatDoorW.PrintLast Go.Proofs.YthppjdmkinbccaaGreatDoor.Print Go.Proofs.YthppjdmkinbccaaGreatDoor.Base
set_option linter.unusedVariables false
set_option linter.unusedSimpArgs false
theorem known_Ev : Ev (fun k => kn9.f k) true := ⟨3, known_evK⟩
theorem cmp_f {a b : List Int} (h : okN a = true) (k : okN b = true) : nat_Cmp.f a b = some (cmpN (valB 4294967296 a) (valB 4294967296 b)) := by unfold nat_Cmp.f; rw [if_pos ⟨h, k⟩]
theorem decB_list (u : Nat) : (decB u).toList = Lib.decDigits u := by rw [ByteArray.toList_eq]; rfl
theorem le_pow10 {k a b : Nat} (h : a * b ≤ k) : (10 ^ a) ^ b ≤ 10 ^ k := by
  rw [← Nat.pow_mul]; exact Nat.pow_le_pow_right (by decide) h
def progNat (l : List UInt8) : List Int × Int := if natB l = true then (if 309 < l.length then ([], 14) else if numD l < 4294967296 ^ 32 then (digB 4294967296 (numD l), 0) else ([], 14)) else ([], 19)
theorem num_big {l : List UInt8} (h : NatL l) (hl : 309 < l.length) : 4294967296 ^ 32 ≤ numD l := by
  obtain ⟨h1, h2, h3⟩ := h
  cases l with
  | nil => simp at hl
  | cons c r =>
    have hc : c ≠ 48 := fun e => by
      have := h3 (by rw [e]; rfl)
      omega
    have hd := h2 c (List.mem_cons_self ..)
    have hne : c.toNat ≠ 48 := fun e => hc (UInt8.toNat_inj.1 (by have h48 : (48 : UInt8).toNat = 48 := rfl; omega))
    have e1 : numD (c :: r) = numF (10 * 0 + (c.toNat - 48)) r := rfl
    rw [e1, numF_eq]
    have hr : 309 ≤ r.length := by simp at hl; omega
    have a1 : 4294967296 ^ 32 ≤ (10 ^ 103) ^ 3 := Nat.le_of_ble_eq_true rfl
    have a2 : (10 ^ 103) ^ 3 ≤ 10 ^ r.length := le_pow10 hr
    have a3 : 1 * 10 ^ r.length ≤ (10 * 0 + (c.toNat - 48)) * 10 ^ r.length := Nat.mul_le_mul_right _ (by omega)
    exact Nat.le_trans a1 (Nat.le_trans a2 (Nat.le_trans (by rw [Nat.one_mul] at a3; exact a3) (Nat.le_add_right _ _)))
theorem read_same (l : List UInt8) : (progNat l = ([], 19) ∧ refNat l = ([], 19)) ∨ (progNat l = ([], 14) ∧ refNat l = ([], 14)) ∨ (natB l = true ∧ l.length ≤ 309 ∧ numD l < 4294967296 ^ 32 ∧ progNat l = (digB 4294967296 (numD l), 0) ∧ refNat l = (digB 10000 (numD l), 0)) := by
  unfold progNat refNat
  by_cases h : natB l = true
  · rw [if_pos h, if_pos h]
    by_cases h4 : 400 < l.length
    · rw [if_pos h4, if_pos (by omega)]; exact Or.inr (Or.inl ⟨rfl, rfl⟩)
    · rw [if_neg h4]
      by_cases h3 : 309 < l.length
      · have := num_big (natB_iff.1 h) h3
        rw [if_pos h3, if_neg (Nat.not_lt.2 this)]; exact Or.inr (Or.inl ⟨rfl, rfl⟩)
      · rw [if_neg h3]
        by_cases h2 : numD l < 4294967296 ^ 32
        · rw [if_pos h2, if_pos h2]; exact Or.inr (Or.inr ⟨h, by omega, h2, rfl, rfl⟩)
        · rw [if_neg h2, if_neg h2]; exact Or.inr (Or.inl ⟨rfl, rfl⟩)
  · rw [if_neg h, if_neg h]; exact Or.inl ⟨rfl, rfl⟩
theorem bA_self (s : ByteArray) : bA s.data.toList = s := by cases s; simp [bA]
theorem bA_list (l : List UInt8) : (bA l).data.toList = l := by simp [bA]
theorem bA_toList (l : List UInt8) : (bA l).toList = l := by rw [ByteArray.toList_eq]; exact bA_list l
theorem bA_dec (v : Nat) : decB v = bA (Lib.decDigits v) := rfl
theorem dec_len {x n : Nat} (h : x < 4294967296 ^ n) : (Lib.decDigits x).length ≤ 10 * n + 1 := by
  refine (padD_dec (10 * n) x (Nat.lt_of_lt_of_le h ?_)).1
  rw [Nat.pow_succ, Nat.pow_mul]
  exact Nat.le_trans (Nat.pow_le_pow_left (by decide) n) (Nat.le_mul_of_pos_right _ (by decide))
theorem okD {v m : Nat} (h : v < 4294967296 ^ m) (hm : m ≤ 1000000) : okN (digB 4294967296 v) = true := okN_digB h (by omega)
theorem valD (v : Nat) : valB 4294967296 (digB 4294967296 v) = v := digB_val _ (by decide) v
end Go.Proofs.YthppjdmkinbccaaGreatDoor.Ref

namespace Go.Proofs.YthppjdmkinbccaaGreatDoor.Ref
open Go.RowKit Go.Proofs.YthppjdmkinbccaaGreatDoorW.PrintWords Go.Proofs.YthppjdmkinbccaaGreatDoorW.PrintLast Go.Proofs.YthppjdmkinbccaaGreatDoor.Print Go.Proofs.YthppjdmkinbccaaGreatDoor.Base
set_option linter.unusedVariables false
set_option linter.unusedSimpArgs false
def sgn (n : Bool) : List UInt8 := if n = true then [45] else []
def tailR (q : Nat) : List UInt8 := if q = 1 then [] else 47 :: Lib.decDigits q
def txt (r : Bool × Nat × Nat) : List UInt8 := sgn r.1 ++ (Lib.decDigits r.2.1 ++ tailR r.2.2)
theorem dec_one (q : Nat) : Lib.decDigits q = [49] ↔ q = 1 :=
  ⟨fun h => dec_inj (h.trans (show [49] = Lib.decDigits 1 by rw [dec_small (by decide)]; rfl)), fun h => by rw [h, dec_small (by decide)]; rfl⟩
theorem ratN_lt {n : Bool} {x y m : Nat} (hx : x < 4294967296 ^ m) (hy : y < 4294967296 ^ m) (hm : 1 ≤ m) : (ratN n x y).2.1 < 4294967296 ^ m ∧ (ratN n x y).2.2 < 4294967296 ^ m := by
  have h1 : (1 : Nat) < 4294967296 ^ m := Nat.lt_of_lt_of_le (show 1 < 4294967296 ^ 1 by decide) (Nat.pow_le_pow_right (by decide) hm)
  unfold ratN
  split
  · exact ⟨Nat.lt_trans Nat.zero_lt_one h1, h1⟩
  · exact ⟨Nat.lt_of_le_of_lt (Nat.div_le_self _ _) hx, Nat.lt_of_le_of_lt (Nat.div_le_self _ _) hy⟩
theorem ratN_idem (n : Bool) (x y : Nat) : ratN (ratN n x y).1 (ratN n x y).2.1 (ratN n x y).2.2 = ratN n x y := by
  unfold ratN
  by_cases h : x = 0 ∨ y = 0
  · rw [if_pos h]; rfl
  · rw [if_neg h]
    have hg : 0 < Nat.gcd x y := Nat.gcd_pos_of_pos_left _ (by omega)
    have h1 : 0 < x / Nat.gcd x y := Nat.div_pos (Nat.gcd_le_left _ (by omega)) hg
    have h2 : 0 < y / Nat.gcd x y := Nat.div_pos (Nat.gcd_le_right _ (by omega)) hg
    have h3 : Nat.gcd (x / Nat.gcd x y) (y / Nat.gcd x y) = 1 := Nat.gcd_div_gcd_div_gcd_of_pos_left (by omega)
    simp only []
    rw [if_neg (by omega), h3, Nat.div_one, Nat.div_one]
theorem of1_f : nat_Of.f 1 = some (digB 4294967296 1) := by decide +kernel
theorem norm_f {n : Bool} {a b : List Int} (ha : okN a = true) (hb : okN b = true) (la : a.length ≤ 1048000) (lb : b.length ≤ 1048000) : rat_Norm.f n a b = some (ratL 4294967296 (ratN n (valB 4294967296 a) (valB 4294967296 b))) := by
  have h1 : digB 4294967296 1 = [1] := digB_small (by decide) (by decide) (by decide)
  have h0 : digB 4294967296 0 = [] := digB_zero _ (by decide)
  unfold rat_Norm.f rat_Make.f ratN ratL
  rw [if_pos ⟨ha, hb, la, lb⟩]
  by_cases y0 : valB 4294967296 b = 0
  · rw [if_pos y0, if_pos (Or.inr y0), Option.bind_some, if_neg (by decide)]
    unfold rat_one.f
    rw [of1_f, h0, h1]; rfl
  · rw [if_neg y0]
    by_cases x0 : valB 4294967296 a = 0
    · rw [if_pos x0, if_pos (Or.inl x0), h0, h1]; rfl
    · rw [if_neg x0, if_neg (by omega)]; rfl
theorem ratD_ev {s : Bool} {p q m : Nat} (hp : p < 4294967296 ^ m) (hq : q < 4294967296 ^ m) (hm : m ≤ 100000) : Ev (fun k => r4R.f k s (digB 10000 p) (digB 10000 q)) (bA (txt (s, p, q))) := by
  have l1 := dec_len hp
  have l2 := dec_len hq
  have n1 := nat_ev (x := p) (by have := T_len hp; omega)
  have n2 := nat_ev (x := q) (by have := T_len hq; omega)
  have tl : ∀ t : List UInt8, t.length ≤ 20000000 → Ev (fun k => r4R.j0 k (bA t) s (digB 10000 p) (digB 10000 q)) (bA (t ++ tailR q)) := by
    intro t ht
    refine Ev.step (fun k => rfl) (Ev.bind n2 ?_)
    refine Ev.congr (f := fun _ => some (bA (t ++ tailR q))) (fun k => ?_) (Ev.now _)
    rw [decB_list]
    unfold tailR
    by_cases h1 : q = 1
    · rw [if_pos ((dec_one q).2 h1), if_pos h1, List.append_nil]
    · rw [if_neg (fun h => h1 ((dec_one q).1 h)), if_neg h1, show (⟨#[47]⟩ : ByteArray) = bA [47] from rfl, bA_dec, bA_append, bA_append, bA_size, bA_size, bA_size]
      rw [if_pos (by omega), if_pos (by simp; omega)]
      rw [List.append_assoc]; rfl
  refine Ev.congr (fun k => rfl) (Ev.bind n1 (f := fun (k : Nat) (t274 : ByteArray) => (if s = true then (if 1 + t274.size ≤ 9223372036854775807 then (r4R.j0 k ((⟨#[45]⟩ : ByteArray) ++ t274) s (digB 10000 p) (digB 10000 q)) else (none)) else (r4R.j0 k t274 s (digB 10000 p) (digB 10000 q)))) ?_)
  cases s with
  | true =>
    have := tl (sgn true ++ Lib.decDigits p) (by simp [sgn]; omega)
    rw [List.append_assoc] at this
    refine Ev.congr (fun k => ?_) this
    rw [if_pos rfl, bA_dec, bA_size, if_pos (by omega), show (⟨#[45]⟩ : ByteArray) = bA [45] from rfl, bA_append]; rfl
  | false =>
    refine Ev.congr (fun k => ?_) (tl (Lib.decDigits p) (by omega))
    rw [if_neg (by decide)]; rfl
def splitS : List UInt8 → List UInt8 × List UInt8 × Bool
  | [] => ([], [], false)
  | c :: r => if c = 47 then ([], r, true) else (c :: (splitS r).1, (splitS r).2.1, (splitS r).2.2)
theorem splitS_join : ∀ l : List UInt8, l = (splitS l).1 ++ (if (splitS l).2.2 = true then 47 :: (splitS l).2.1 else [])
  | [] => rfl
  | c :: r => by
    have ih := splitS_join r
    unfold splitS
    by_cases h : c = 47
    · rw [if_pos h, h]; rfl
    · rw [if_neg h]
      show c :: r = c :: ((splitS r).1 ++ _)
      rw [← ih]
theorem splitS_none : ∀ l : List UInt8, (splitS l).2.2 = false → (splitS l).1 = l ∧ (splitS l).2.1 = []
  | [], _ => ⟨rfl, rfl⟩
  | c :: r, h => by
    unfold splitS at h ⊢
    by_cases hc : c = 47
    · rw [if_pos hc] at h; cases h
    · rw [if_neg hc] at h ⊢
      obtain ⟨h1, h2⟩ := splitS_none r h
      exact ⟨congrArg (c :: ·) h1, h2⟩
theorem splitS_two : ∀ (a b : List UInt8), (∀ c ∈ a, c ≠ 47) → splitS (a ++ 47 :: b) = (a, b, true)
  | [], b, _ => by unfold splitS; rw [List.nil_append]; simp
  | c :: r, b, h => by
    have ih := splitS_two r b (fun x hx => h x (List.mem_cons_of_mem _ hx))
    rw [List.cons_append]
    unfold splitS
    rw [if_neg (h c (List.mem_cons_self ..)), ih]
theorem splitS_one : ∀ (a : List UInt8), (∀ c ∈ a, c ≠ 47) → splitS a = (a, [], false)
  | [], _ => rfl
  | c :: r, h => by
    have ih := splitS_one r (fun x hx => h x (List.mem_cons_of_mem _ hx))
    unfold splitS
    rw [if_neg (h c (List.mem_cons_self ..)), ih]
def negS (l : List UInt8) : Bool := l.head? == some 45
def restS (l : List UInt8) : List UInt8 := if negS l = true then l.drop 1 else l
theorem strip_join (l : List UInt8) : l = sgn (negS l) ++ restS l := by
  unfold restS sgn
  by_cases h : negS l = true
  · rw [if_pos h, if_pos h]
    unfold negS at h
    cases l with
    | nil => simp at h
    | cons c r =>
      have : c = 45 := by simpa using h
      rw [this]; rfl
  · rw [if_neg h, if_neg h]; rfl
theorem strip_of (n : Bool) (t : List UInt8) (h : t.head? ≠ some 45) : negS (sgn n ++ t) = n ∧ restS (sgn n ++ t) = t := by
  unfold restS negS sgn
  cases n with
  | true => exact ⟨rfl, rfl⟩
  | false =>
    have e : (t.head? == some 45) = false := by rw [beq_eq_false_iff_ne]; exact h
    rw [if_neg (by decide), List.nil_append, e]
    exact ⟨rfl, rfl⟩
theorem dec_not {v : Nat} : (∀ c ∈ Lib.decDigits v, c ≠ 47) ∧ (∀ t, (Lib.decDigits v ++ t).head? ≠ some 45) := by
  have hd := dec_dig v
  have h47 : (47 : UInt8).toNat = 47 := rfl
  have h45 : (45 : UInt8).toNat = 45 := rfl
  refine ⟨fun c hc e => ?_, fun t => ?_⟩
  · have := hd c hc
    rw [e] at this; omega
  · cases hv : Lib.decDigits v with
    | nil => exact absurd hv (dec_ne v)
    | cons c r =>
      intro e
      have e2 : c = 45 := by simpa using e
      have := hd c (by rw [hv]; exact List.mem_cons_self ..)
      rw [e2] at this; omega
theorem txt_parts (n : Bool) (p q : Nat) : negS (txt (n, p, q)) = n ∧ splitS (restS (txt (n, p, q))) = (Lib.decDigits p, if q = 1 then [] else Lib.decDigits q, decide (q ≠ 1)) := by
  obtain ⟨h1, h2⟩ := strip_of n (Lib.decDigits p ++ tailR q) (dec_not.2 _)
  refine ⟨h1, ?_⟩
  show splitS (restS (sgn n ++ (Lib.decDigits p ++ tailR q))) = _
  rw [h2]
  unfold tailR
  by_cases h : q = 1
  · rw [if_pos h, if_pos h, List.append_nil, splitS_one _ dec_not.1, decide_eq_false (by simpa using h)]
  · rw [if_neg h, if_neg h, splitS_two _ _ dec_not.1, decide_eq_true h]
def resR (l : List UInt8) : Int × (Bool × Nat × Nat) :=
  let a := (splitS (restS l)).1
  let b := if (splitS (restS l)).2.2 = true then (splitS (restS l)).2.1 else [49]
  if natB a = true ∧ natB b = true then
    (if (progNat a).2 = 0 ∧ (progNat b).2 = 0 then (if txt (ratN (negS l) (numD a) (numD b)) = l then (0, ratN (negS l) (numD a) (numD b)) else (6, (false, 0, 1))) else (14, (false, 0, 1)))
  else (19, (false, 0, 1))
theorem may_txt {l a b : List UInt8} {two : Bool} (hs : splitS (restS l) = (a, b, two)) (ha : natB a = true) (hb : natB (if two = true then b else [49]) = true) :
    txt (ratN (negS l) (numD a) (numD (if two = true then b else [49]))) = l ↔ (ratN (negS l) (numD a) (numD (if two = true then b else [49])) = (negS l, numD a, numD (if two = true then b else [49])) ∧ ¬ (two = true ∧ b = [49])) := by
  have n1 : numD [49] = 1 := rfl
  constructor
  · intro h
    generalize hr : ratN (negS l) (numD a) (numD (if two = true then b else [49])) = r at h ⊢
    obtain ⟨n, p, q⟩ := r
    obtain ⟨t1, t2⟩ := txt_parts n p q
    rw [h] at t1 t2
    rw [hs] at t2
    simp only [Prod.mk.injEq] at t2
    obtain ⟨c1, c2, c3⟩ := t2
    rw [t1, c1, num_dec]
    by_cases hq : q = 1
    · rw [decide_eq_false (by simpa using hq)] at c3
      rw [c3, if_neg (by decide), n1, hq]
      exact ⟨rfl, fun e => by cases e.1⟩
    · rw [decide_eq_true hq] at c3
      rw [if_neg hq] at c2
      rw [c3, if_pos rfl, c2, num_dec]
      exact ⟨rfl, fun e => hq ((dec_one q).1 e.2)⟩
  · rintro ⟨h1, h2⟩
    rw [h1]
    have e1 := splitS_join (restS l)
    rw [hs] at e1
    have e2 := strip_join l
    conv => rhs; rw [e2, e1]
    show sgn (negS l) ++ (Lib.decDigits (numD a) ++ tailR _) = _
    rw [dec_numL (natB_iff.1 ha)]
    congr 2
    unfold tailR
    cases two with
    | true =>
      rw [if_pos rfl] at hb ⊢
      rw [if_pos rfl]
      have hne : numD b ≠ 1 := fun e => h2 ⟨rfl, by rw [← dec_numL (natB_iff.1 hb), e, dec_small (by decide)]; rfl⟩
      rw [if_neg hne, dec_numL (natB_iff.1 hb)]
    | false =>
      show (if numD [49] = 1 then [] else 47 :: Lib.decDigits (numD [49])) = []
      rw [if_pos n1]
theorem prog_ok {l : List UInt8} (h : natB l = true) : (progNat l).2 = 0 ∧ l.length ≤ 309 ∧ numD l < 4294967296 ^ 32 ∧ progNat l = (digB 4294967296 (numD l), 0) ∧ refNat l = (digB 10000 (numD l), 0) ∨ (progNat l).2 = 14 ∧ (refNat l).2 = 14 ∧ progNat l = ([], 14) := by
  rcases read_same l with ⟨e1, e2⟩ | ⟨e1, e2⟩ | ⟨hn, hl, hlt, e1, e2⟩
  · exfalso
    unfold progNat at e1
    rw [if_pos h] at e1
    split at e1
    · exact absurd (show (14 : Int) = 19 from congrArg Prod.snd e1) (by decide)
    · split at e1
      · exact absurd (show (0 : Int) = 19 from congrArg Prod.snd e1) (by decide)
      · exact absurd (show (14 : Int) = 19 from congrArg Prod.snd e1) (by decide)
  · exact Or.inr ⟨by rw [e1], by rw [e2], e1⟩
  · exact Or.inl ⟨by rw [e1], hl, hlt, e1, e2⟩
theorem prog_one : natB [49] = true ∧ progNat [49] = (digB 4294967296 1, 0) ∧ refNat [49] = (digB 10000 1, 0) := by
  have hn : natB [49] = true := rfl
  refine ⟨hn, ?_⟩
  have e : numD [49] = 1 := rfl
  unfold progNat refNat
  rw [if_pos hn, if_pos hn, e]
  have h1 : (1 : Nat) < 4294967296 ^ 32 := Nat.lt_of_lt_of_le (show 1 < 4294967296 ^ 1 by decide) (Nat.pow_le_pow_right (by decide) (by decide))
  rw [if_pos h1, if_pos h1]
  exact ⟨rfl, rfl⟩
end Go.Proofs.YthppjdmkinbccaaGreatDoor.Ref

namespace Go.Proofs.YthppjdmkinbccaaGreatDoor.Ref
open Go.RowKit Go.Proofs.YthppjdmkinbccaaGreatDoorW.PrintWords Go.Proofs.YthppjdmkinbccaaGreatDoorW.PrintLast Go.Proofs.YthppjdmkinbccaaGreatDoor.Print Go.Proofs.YthppjdmkinbccaaGreatDoor.Base
set_option linter.unusedVariables false
set_option linter.unusedSimpArgs false
def outR (B : Nat) (r : Int × Bool × Nat × Nat) : Bool × List Int × List Int × Int := if r.1 = 0 then (r.2.1, digB B r.2.2.1, digB B r.2.2.2, 0) else (false, [], [], r.1)
theorem split_index : ∀ r : List UInt8, splitS r = if 0 ≤ Lib.indexByte r 47 then (r.take (Lib.indexByte r 47).toNat, r.drop ((Lib.indexByte r 47).toNat + 1), true) else (r, [], false)
  | [] => rfl
  | c :: r => by
    have ih := split_index r
    have hge := Lib.indexByte_ge r 47
    have hi : Lib.indexByte (c :: r) 47 = if (c == 47) = true then 0 else if (Lib.indexByte r 47 == -1) = true then -1 else Lib.indexByte r 47 + 1 := rfl
    by_cases h : c = 47
    · have hv : Lib.indexByte (c :: r) 47 = 0 := by rw [hi, if_pos (by simpa using h)]
      rw [hv, if_pos (by decide)]
      unfold splitS
      rw [if_pos h]; rfl
    · have hs : splitS (c :: r) = (c :: (splitS r).1, (splitS r).2.1, (splitS r).2.2) := by
        conv => lhs; unfold splitS
        rw [if_neg h]
      by_cases h1 : Lib.indexByte r 47 = -1
      · have hv : Lib.indexByte (c :: r) 47 = -1 := by rw [hi, if_neg (by simpa using h), if_pos (by simpa using h1)]
        rw [hv, if_neg (by decide), hs, ih, if_neg (by omega)]
      · have hv : Lib.indexByte (c :: r) 47 = Lib.indexByte r 47 + 1 := by rw [hi, if_neg (by simpa using h), if_neg (by simpa using h1)]
        rw [hv, if_pos (by omega), hs, ih, if_pos (by omega)]
        obtain ⟨i, hi⟩ : ∃ i : Nat, Lib.indexByte r 47 = (i : Int) := ⟨(Lib.indexByte r 47).toNat, by omega⟩
        rw [hi, show ((i : Int) + 1).toNat = i + 1 by omega, Int.toNat_natCast]; rfl
theorem extract_bA (l : List UInt8) (i j : Nat) : (bA l).extract i j = bA ((l.drop i).take (j - i)) := by
  refine Go.WideShapes.bytes_inj ?_
  rw [extract_list, bA_list, bA_list]
theorem cutSL_bA (r : List UInt8) : cutSL (bA r) = (bA (splitS r).1, bA (splitS r).2.1, (splitS r).2.2) := by
  have hlt := indexByte_lt r 47
  have e : slAt (bA r) = Lib.indexByte r 47 := by unfold slAt; rw [bA_list]
  unfold cutSL
  rw [e, split_index r]
  by_cases h : 0 ≤ Lib.indexByte r 47
  · rw [if_pos h, if_pos h, extract_bA, extract_bA, bA_size]
    rw [List.drop_zero, Nat.sub_zero, List.take_of_length_le (l := r.drop _) (by rw [List.length_drop]; exact Nat.le_refl _)]
  · rw [if_neg h, if_neg h]; rfl
theorem prefix_bA (l : List UInt8) : strings_CutPrefix.f (bA l) ⟨#[45]⟩ = some (bA (restS l), negS l) := by
  unfold strings_CutPrefix.f Lib.trimPrefix restS negS
  rw [bA_list, show (⟨#[45]⟩ : ByteArray).data.toList = [45] from rfl]
  cases l with
  | nil => rfl
  | cons c r =>
    by_cases h : c = 45
    · subst h; rfl
    · have e1 : Lib.hasPrefix (c :: r) [45] = false := by unfold Lib.hasPrefix; simp [List.isPrefixOf, Ne.symm h]
      have e2 : ((c :: r).head? == some 45) = false := by simp [h]
      rw [e1, e2]; rfl
theorem restS_len (l : List UInt8) : (restS l).length ≤ l.length := by
  unfold restS; split
  · simp
  · exact Nat.le_refl _
theorem limbs_f {p x : Nat} (hp : p < 4294967296 ^ 32) (hx : x < 4294967296 ^ 32) : rat_limbs.f (digB 4294967296 p) (digB 4294967296 x) = some (decide (p = x)) := by
  have c := cmp_f (okD hp (by decide)) (okD hx (by decide))
  rw [valD, valD] at c
  unfold rat_limbs.f
  by_cases h : p = x
  · subst h
    rw [if_pos rfl, c, decide_eq_true rfl]; unfold cmpN; simp
  · rw [decide_eq_false h]
    split
    · rw [c, Option.bind_some]
      unfold cmpN
      by_cases h1 : p < x
      · rw [if_pos h1]; rfl
      · rw [if_neg h1, if_pos (by omega)]; rfl
    · rfl
theorem may_f {n : Bool} {x y : Nat} (hx : x < 4294967296 ^ 32) (hy : y < 4294967296 ^ 32) : rat_May.f n (digB 4294967296 x) (digB 4294967296 y) = some (if ratN n x y = (n, x, y) then 0 else 6) := by
  have ox := okD hx (by decide)
  have oy := okD hy (by decide)
  have hn := norm_f (n := n) ox oy (Nat.le_trans (digB_len (by decide) hx) (by decide)) (Nat.le_trans (digB_len (by decide) hy) (by decide))
  rw [valD, valD] at hn
  obtain ⟨hp, hq⟩ := ratN_lt (n := n) hx hy (by decide)
  generalize ratN n x y = r at hn hp hq ⊢
  obtain ⟨m, p, q⟩ := r
  have l1 := limbs_f (p := p) (x := x) hp hx
  have l2 := limbs_f (p := q) (x := y) hq hy
  unfold rat_May.f
  rw [hn, Option.bind_some]
  simp only [ratL, l1, l2, Option.bind_some, Prod.mk.injEq]
  cases m <;> cases n <;> by_cases hpx : p = x <;> by_cases hqy : q = y <;> simp [hpx, hqy]
theorem read_f {l : List UInt8} (h : natB l = true) : digits_read.f (bA l) = some (progNat l) := by
  unfold digits_read.f progNat
  rw [bA_list, bA_size, if_pos h, if_pos h]
  split
  · rfl
  · split <;> rfl
theorem natural_f (l : List UInt8) : digits_natural.f (bA l) = some (natB l) := by unfold digits_natural.f; rw [bA_list]
theorem progR_ev (l : List UInt8) (hl : l.length ≤ 140737488351232) : Ev (fun k => digits_ParseRat.f k (bA l)) (outR 4294967296 (resR l)) := by
  have hc : strings_Cut.f (bA (restS l)) ⟨#[47]⟩ = some (bA (splitS (restS l)).1, bA (splitS (restS l)).2.1, (splitS (restS l)).2.2) := by
    unfold strings_Cut.f
    rw [if_pos ⟨rfl, by rw [bA_size]; exact Nat.le_trans (restS_len l) hl⟩, cutSL_bA]
  unfold resR
  generalize hs : splitS (restS l) = t at hc ⊢
  obtain ⟨a, b, two⟩ := t
  simp only [] at hc ⊢
  have e0 : ∀ k, digits_ParseRat.f k (bA l) = if natB a = true then (if two = true then digits_ParseRat.j0 k (negS l) (bA a) (bA b) two (!natB b) else digits_ParseRat.j0 k (negS l) (bA a) (bA b) two false) else digits_ParseRat.j0 k (negS l) (bA a) (bA b) two true := by
    intro k
    unfold digits_ParseRat.f
    simp only [prefix_bA, hc, natural_f, Option.bind_some]
  have bad : Ev (fun k => digits_ParseRat.j0 k (negS l) (bA a) (bA b) two true) (outR 4294967296 (19, (false, 0, 1))) := by
    refine Ev.step (f := fun _ => some (outR 4294967296 (19, (false, 0, 1)))) (fun k => ?_) (Ev.now _)
    simp only [digits_ParseRat.j0]; rfl
  refine Ev.congr e0 ?_
  by_cases ha : natB a = true
  · have main : ∀ hb : natB (if two = true then b else [49]) = true, Ev (fun k => digits_ParseRat.j0 k (negS l) (bA a) (bA b) two false) (outR 4294967296 (if (progNat a).2 = 0 ∧ (progNat (if two = true then b else [49])).2 = 0 then (if txt (ratN (negS l) (numD a) (numD (if two = true then b else [49]))) = l then (0, ratN (negS l) (numD a) (numD (if two = true then b else [49]))) else (6, (false, 0, 1))) else (14, (false, 0, 1)))) := by
      intro hb
      have hm := may_txt hs ha hb
      refine Ev.step (f := fun _ => some (outR 4294967296 (if (progNat a).2 = 0 ∧ (progNat (if two = true then b else [49])).2 = 0 then (if txt (ratN (negS l) (numD a) (numD (if two = true then b else [49]))) = l then (0, ratN (negS l) (numD a) (numD (if two = true then b else [49]))) else (6, (false, 0, 1))) else (14, (false, 0, 1))))) (fun k => ?_) (Ev.now _)
      simp only [digits_ParseRat.j0]
      rw [if_neg (by decide), of1_f, Option.bind_some, read_f ha, Option.bind_some]
      rcases prog_ok ha with ⟨a0, a1, a2, a3, _⟩ | ⟨a0, _, a3⟩
      · rw [if_pos a0]
        cases two with
        | true =>
          rw [if_pos rfl] at hb hm ⊢
          simp only [if_true, true_and] at hm ⊢
          rw [read_f hb, Option.bind_some]
          rcases prog_ok hb with ⟨b0, b1, b2, b3, _⟩ | ⟨b0, _, b3⟩
          · rw [if_pos b0, if_pos (And.intro a0 b0), a3, b3]
            simp only []
            rw [may_f a2 b2, Option.bind_some]
            by_cases hr : ratN (negS l) (numD a) (numD b) = (negS l, numD a, numD b)
            · rw [if_pos hr, if_pos rfl, bA_toList]
              by_cases h1 : b = [49]
              · rw [if_pos h1, if_neg (fun c => (hm.1 c).2 h1)]; rfl
              · rw [if_neg h1, if_pos (hm.2 ⟨hr, h1⟩), hr]; rfl
            · rw [if_neg hr, if_neg (by decide), if_neg (fun c => hr (hm.1 c).1)]; rfl
          · rw [if_neg (by rw [b0]; decide), if_neg (by rw [b0]; exact fun c => absurd c.2 (by decide)), b0]; rfl
        | false =>
          obtain ⟨o1, o2, o3⟩ := prog_one
          simp only [Bool.false_eq_true, if_false, false_and, not_false_eq_true, and_true] at hm ⊢
          rw [if_pos (And.intro a0 (show (progNat [49]).2 = 0 by rw [o2])), a3]
          have n1 : numD [49] = 1 := rfl
          rw [n1] at hm ⊢
          have h1 : (1 : Nat) < 4294967296 ^ 32 := Nat.lt_of_lt_of_le (show 1 < 4294967296 ^ 1 by decide) (Nat.pow_le_pow_right (by decide) (by decide))
          simp only []
          rw [may_f a2 h1, Option.bind_some]
          by_cases hr : ratN (negS l) (numD a) 1 = (negS l, numD a, 1)
          · rw [if_pos hr, if_pos rfl, if_pos (hm.2 hr), hr]; rfl
          · rw [if_neg hr, if_neg (by decide), if_neg (fun c => hr (hm.1 c))]; rfl
      · rw [if_neg (by rw [a0]; decide), if_neg (by rw [a0]; exact fun c => absurd c.1 (by decide)), a0]; rfl
    cases two with
    | true =>
      simp only [if_true] at main ⊢
      by_cases hb : natB b = true
      · have := main hb
        rw [if_pos (And.intro ha hb)]
        refine Ev.congr (fun k => ?_) this
        rw [if_pos ha, hb]; rfl
      · rw [if_neg (fun c => hb c.2)]
        refine Ev.congr (fun k => ?_) bad
        rw [if_pos ha, show natB b = false by simpa using hb]; rfl
    | false =>
      simp only [Bool.false_eq_true, if_false] at main ⊢
      have := main prog_one.1
      rw [if_pos (And.intro ha prog_one.1)]
      refine Ev.congr (fun k => ?_) this
      rw [if_pos ha]
  · rw [if_neg (fun c => ha c.1)]
    refine Ev.congr (fun k => ?_) bad
    rw [if_neg ha]
theorem cut_loop (s : List UInt8) (h9 : s.length ≤ 4611686018427387904) : ∀ (m i : Nat), i + m = s.length → Ev (fun k => fluxionref04_cut.l0 k (bA s) (i : Int)) (if (splitS (s.drop i)).2.2 = true then bA (s.take i ++ (splitS (s.drop i)).1) else bA s, bA (splitS (s.drop i)).2.1, (splitS (s.drop i)).2.2) := by
  intro m
  induction m with
  | zero =>
    intro i hi
    rw [List.drop_eq_nil_of_le (by omega)]
    refine Ev.step (f := fun _ => some (bA s, bA [], false)) (fun k => ?_) (Ev.now _)
    simp only [fluxionref04_cut.l0]
    rw [if_neg (by rw [bA_size]; omega)]; rfl
  | succ m ih =>
    intro i hi
    have hi2 : i < s.length := by omega
    have hb := bt_bA s i hi2
    rw [List.drop_eq_getElem_cons hi2]
    generalize hc : s[i] = c at hb ⊢
    have h47 : (47 : UInt8).toNat = 47 := rfl
    by_cases h : c = 47
    · subst h
      have e : splitS (47 :: s.drop (i + 1)) = ([], s.drop (i + 1), true) := by unfold splitS; rw [if_pos rfl]
      rw [e]
      refine Ev.step (f := fun _ => some (bA (s.take i), bA (s.drop (i + 1)), true)) (fun k => ?_) (by rw [if_pos rfl, List.append_nil]; exact Ev.now _)
      simp only [fluxionref04_cut.l0]
      rw [if_pos (by rw [bA_size]; omega), if_pos (by omega), if_pos (by rw [hb]; omega), if_pos (by rw [bA_size]; omega), w64 (by omega) (by omega), if_pos (by omega), if_pos (by rw [bA_size]; omega),
        extract_bA, extract_bA, Int.toNat_natCast, bA_size, show ((i : Int) + 1).toNat = i + 1 by omega, List.drop_zero, Nat.sub_zero, List.take_of_length_le (l := s.drop _) (by rw [List.length_drop]; exact Nat.le_refl _)]
    · have e : splitS (c :: s.drop (i + 1)) = (c :: (splitS (s.drop (i + 1))).1, (splitS (s.drop (i + 1))).2.1, (splitS (s.drop (i + 1))).2.2) := by
        conv => lhs; unfold splitS
        rw [if_neg h]
      have hn := ih (i + 1) (by omega)
      rw [List.take_succ_eq_append_getElem hi2, hc, List.append_assoc, List.singleton_append] at hn
      rw [e]
      refine Ev.step (fun k => ?_) hn
      simp only [fluxionref04_cut.l0]
      rw [if_pos (by rw [bA_size]; omega), if_pos (by omega), if_neg (by rw [hb]; exact fun x => h (UInt8.toNat_inj.1 (by omega))), w64 (by omega) (by omega)]; rfl
theorem cut_ev (s : List UInt8) (h9 : s.length ≤ 4611686018427387904) : Ev (fun k => fluxionref04_cut.f k (bA s)) (bA (splitS s).1, bA (splitS s).2.1, (splitS s).2.2) := by
  have h := cut_loop s h9 s.length 0 (by omega)
  rw [List.drop_zero, List.take_zero, List.nil_append] at h
  by_cases h2 : (splitS s).2.2 = true
  · rw [if_pos h2] at h; exact h
  · rw [if_neg h2] at h
    have := (splitS_none s (by simpa using h2)).1
    rw [this]; exact h
theorem refR_ev (l : List UInt8) (hl : l.length ≤ 140737488351232) : Ev (fun k => r4PR.f k (bA l)) (outR 10000 (resR l)) := by
  have hrl := restS_len l
  unfold resR
  generalize hs : splitS (restS l) = t
  have hcut := cut_ev (restS l) (by omega)
  rw [hs] at hcut
  have hjoin := splitS_join (restS l)
  rw [hs] at hjoin
  obtain ⟨a, b, two⟩ := t
  simp only [] at hcut hjoin ⊢
  have hlen : a.length ≤ 140737488351232 ∧ b.length ≤ 140737488351232 := by
    have e := congrArg List.length hjoin
    rw [List.length_append] at e
    cases two with
    | true => rw [if_pos rfl, List.length_cons] at e; omega
    | false =>
      have := (splitS_none (restS l) (by rw [hs])).2
      rw [hs] at this
      simp only [] at this
      rw [this]; simp at e ⊢; omega
  have j4 : ∀ (x y : Nat), x < 4294967296 ^ 32 → y < 4294967296 ^ 32 → Ev (fun k => r4PR.j4 k (bA l) (negS l) (digB 10000 x) (digB 10000 y) false) (outR 10000 (if txt (ratN (negS l) x y) = l then (0, ratN (negS l) x y) else (6, (false, 0, 1)))) := by
    intro x y hx hy
    have l1 := T_len hx
    have l2 := T_len hy
    have hm := make_ev (n := negS l) (x := x) (y := y) (by omega) (by omega)
    obtain ⟨hp, hq⟩ := ratN_lt (n := negS l) hx hy (by decide)
    generalize ratN (negS l) x y = r at hm hp hq ⊢
    obtain ⟨n, p, q⟩ := r
    have ht := ratD_ev (s := n) (p := p) (q := q) hp hq (by decide)
    refine Ev.step (f := fun k => (r3M.f k (negS l) (digB 10000 x) (digB 10000 y)).bind fun bt290 => (r4R.f k bt290.1 bt290.2.1 bt290.2.2).bind fun t298 => if t298.toList = (bA l).toList then some (bt290.1, bt290.2.1, bt290.2.2, 0) else some (false, ([] : List Int), ([] : List Int), 6)) (fun k => ?_) (Ev.bind hm (Ev.bind ht ?_))
    · simp only [r4PR.j4]; rw [if_neg (by decide)]
    · rw [bA_toList, bA_toList]
      by_cases h : txt (n, p, q) = l
      · rw [if_pos h, if_pos h]; exact Ev.now _
      · rw [if_neg h, if_neg h]; exact Ev.now _
  have j4b : ∀ x y : List Int, Ev (fun k => r4PR.j4 k (bA l) (negS l) x y true) (outR 10000 (14, (false, 0, 1))) := by
    intro x y
    refine Ev.step (f := fun _ => some (outR 10000 (14, (false, 0, 1)))) (fun k => ?_) (Ev.now _)
    simp only [r4PR.j4]; rfl
  have j3b : ∀ x y : ByteArray, Ev (fun k => r4PR.j3 k (bA l) (negS l) x y true) (outR 10000 (19, (false, 0, 1))) := by
    intro x y
    refine Ev.step (f := fun _ => some (outR 10000 (19, (false, 0, 1)))) (fun k => ?_) (Ev.now _)
    simp only [r4PR.j3]; rfl
  have j2 : ∀ c : List UInt8, c.length ≤ 140737488351232 → Ev (fun k => r4PR.j2 k (bA l) (negS l) (bA a) (bA c)) (outR 10000 (if natB a = true ∧ natB c = true then
      (if (progNat a).2 = 0 ∧ (progNat c).2 = 0 then (if txt (ratN (negS l) (numD a) (numD c)) = l then (0, ratN (negS l) (numD a) (numD c)) else (6, (false, 0, 1))) else (14, (false, 0, 1))) else (19, (false, 0, 1)))) := by
    intro c hc
    have na := natural_ev (bA a) (by rw [bA_size]; omega)
    have nc := natural_ev (bA c) (by rw [bA_size]; omega)
    rw [bA_list] at na nc
    refine Ev.step (f := fun k => (r4nat.f k (bA a)).bind fun t280 => if t280 = true then ((r4nat.f k (bA c)).bind fun t281 => r4PR.j3 k (bA l) (negS l) (bA a) (bA c) (!t281)) else r4PR.j3 k (bA l) (negS l) (bA a) (bA c) true) (fun k => rfl) (Ev.bind na ?_)
    by_cases ha : natB a = true
    · refine Ev.congr (f := fun k => (r4nat.f k (bA c)).bind fun t281 => r4PR.j3 k (bA l) (negS l) (bA a) (bA c) (!t281)) (fun k => by rw [if_pos ha]) (Ev.bind nc ?_)
      by_cases hcn : natB c = true
      · rw [if_pos (And.intro ha hcn), hcn]
        have pa := parse_ev (bA a) (by rw [bA_size]; omega)
        have pc := parse_ev (bA c) (by rw [bA_size]; omega)
        rw [bA_list] at pa pc
        refine Ev.step (f := fun k => (r4PN.f k (bA a)).bind fun bt282 => (r4PN.f k (bA c)).bind fun bt286 => if bt282.2 = 0 then r4PR.j4 k (bA l) (negS l) bt282.1 bt286.1 (bt286.2 != 0) else r4PR.j4 k (bA l) (negS l) bt282.1 bt286.1 true) (fun k => ?_) (Ev.bind pa (Ev.bind pc ?_))
        · simp only [r4PR.j3]; rfl
        · rcases prog_ok ha with ⟨a0, a1, a2, a3, a4⟩ | ⟨a0, a4, a3⟩
          · rcases prog_ok hcn with ⟨b0, b1, b2, b3, b4⟩ | ⟨b0, b4, b3⟩
            · rw [if_pos (And.intro a0 b0), a4, b4]
              exact Ev.congr (fun k => by rw [if_pos rfl]; rfl) (j4 _ _ a2 b2)
            · rw [if_neg (by rw [b0]; exact fun x => absurd x.2 (by decide)), a4]
              refine Ev.congr (fun k => ?_) (j4b (digB 10000 (numD a)) (refNat c).1)
              rw [if_pos rfl, b4]; rfl
          · rw [if_neg (by rw [a0]; exact fun x => absurd x.1 (by decide))]
            refine Ev.congr (fun k => ?_) (j4b (refNat a).1 (refNat c).1)
            rw [if_neg (by rw [a4]; decide)]
      · rw [if_neg (fun x => hcn x.2), show natB c = false by simpa using hcn]
        exact j3b _ _
    · rw [if_neg (fun x => ha x.1)]
      exact Ev.congr (fun k => by rw [if_neg ha]) (j3b _ _)
  have j1 : Ev (fun k => r4PR.j1 k (bA l) (negS l) (bA (restS l))) (outR 10000 (if natB a = true ∧ natB (if two = true then b else [49]) = true then
      (if (progNat a).2 = 0 ∧ (progNat (if two = true then b else [49])).2 = 0 then (if txt (ratN (negS l) (numD a) (numD (if two = true then b else [49]))) = l then (0, ratN (negS l) (numD a) (numD (if two = true then b else [49]))) else (6, (false, 0, 1))) else (14, (false, 0, 1))) else (19, (false, 0, 1)))) := by
    refine Ev.step (f := fun k => (fluxionref04_cut.f k (bA (restS l))).bind fun bt277 => if bt277.2.2 = true then r4PR.j2 k (bA l) (negS l) bt277.1 bt277.2.1 else r4PR.j2 k (bA l) (negS l) bt277.1 ⟨#[49]⟩) (fun k => rfl) (Ev.bind hcut ?_)
    cases two with
    | true => exact Ev.congr (fun k => by rw [if_pos rfl]) (j2 b hlen.2)
    | false => exact Ev.congr (fun k => rfl) (j2 [49] (by decide))
  have j0 : Ev (fun k => r4PR.j0 k (bA l) (negS l)) (outR 10000 (if natB a = true ∧ natB (if two = true then b else [49]) = true then
      (if (progNat a).2 = 0 ∧ (progNat (if two = true then b else [49])).2 = 0 then (if txt (ratN (negS l) (numD a) (numD (if two = true then b else [49]))) = l then (0, ratN (negS l) (numD a) (numD (if two = true then b else [49]))) else (6, (false, 0, 1))) else (14, (false, 0, 1))) else (19, (false, 0, 1)))) := by
    refine Ev.step (fun k => ?_) j1
    simp only [r4PR.j0]
    unfold restS
    by_cases hn : negS l = true
    · have hne : 1 ≤ l.length := by
        unfold negS at hn
        cases l with
        | nil => simp at hn
        | cons c r => simp
      rw [if_pos hn, if_pos (by rw [bA_size]; omega), extract_bA, bA_size, if_pos hn, List.take_of_length_le (by rw [List.length_drop]; exact Nat.le_refl _)]
    · rw [if_neg hn, if_neg hn]
  refine Ev.congr (fun k => ?_) j0
  unfold r4PR.f
  rw [bA_size]
  unfold negS
  cases l with
  | nil => rw [if_neg (by simp)]; rfl
  | cons c r =>
    have hb := bt_bA (c :: r) 0 (by simp)
    have h45 : (45 : UInt8).toNat = 45 := rfl
    rw [if_pos (by simp), if_pos (by simp)]
    congr 1
    have hb0 : bt (bA (c :: r)) 0 = ((c.toNat : Nat) : Int) := hb
    rw [hb0, Bool.eq_iff_iff, beq_iff_eq, beq_iff_eq]
    constructor
    · intro h; rw [show c = 45 from UInt8.toNat_inj.1 (by omega)]; rfl
    · intro h
      have : c = 45 := by simpa using h
      rw [this]; rfl
end Go.Proofs.YthppjdmkinbccaaGreatDoor.Ref

namespace Go.Proofs.YthppjdmkinbccaaGreatDoor.Ref
open Go.RowKit Go.Proofs.YthppjdmkinbccaaGreatDoorW.PrintWords Go.Proofs.YthppjdmkinbccaaGreatDoorW.PrintLast Go.Proofs.YthppjdmkinbccaaGreatDoor.Print Go.Proofs.YthppjdmkinbccaaGreatDoor.Base
set_option linter.unusedVariables false
set_option linter.unusedSimpArgs false
theorem is3_ev {n : Bool} {p q m : Nat} (hp : p < 4294967296 ^ m) (hq : q < 4294967296 ^ m) (hm : m ≤ 50000) : Ev (fun k => r3Is.f k n (digB 10000 p) (digB 10000 q) n (digB 4294967296 p) (digB 4294967296 q)) true := by
  have i1 := is_ev (x := p) hp hm
  have i2 := is_ev (x := q) hq hm
  rw [decide_eq_true rfl] at i1 i2
  refine Ev.congr (f := fun k => (r1Is.f k (digB 10000 p) (digB 4294967296 p)).bind fun t => if t = true then ((r1Is.f k (digB 10000 q) (digB 4294967296 q)).bind fun u => some u) else some false) (fun k => ?_) (Ev.bind i1 ?_)
  · unfold r3Is.f
    cases n <;> rfl
  · exact Ev.congr (fun k => by rw [if_pos rfl]) (Ev.bind i2 (f := fun _ u => some u) (Ev.now _))
theorem resR_ok {l : List UInt8} (h : (resR l).1 = 0) : (resR l).2.2.1 < 4294967296 ^ 32 ∧ (resR l).2.2.2 < 4294967296 ^ 32 ∧ txt (resR l).2 = l ∧ ratN (resR l).2.1 (resR l).2.2.1 (resR l).2.2.2 = (resR l).2 := by
  unfold resR at h ⊢
  generalize splitS (restS l) = t at h ⊢
  obtain ⟨a, b, two⟩ := t
  simp only [] at h ⊢
  generalize (if two = true then b else [49]) = c at h ⊢
  by_cases h1 : natB a = true ∧ natB c = true
  · rw [if_pos h1] at h ⊢
    by_cases h2 : (progNat a).2 = 0 ∧ (progNat c).2 = 0
    · rw [if_pos h2] at h ⊢
      by_cases h3 : txt (ratN (negS l) (numD a) (numD c)) = l
      · rw [if_pos h3]
        rcases prog_ok h1.1 with ⟨_, _, a2, _⟩ | ⟨a0, _⟩
        · rcases prog_ok h1.2 with ⟨_, _, b2, _⟩ | ⟨b0, _⟩
          · obtain ⟨q1, q2⟩ := ratN_lt (n := negS l) a2 b2 (by decide)
            exact ⟨q1, q2, h3, ratN_idem _ _ _⟩
          · exact absurd (h2.2.symm.trans b0) (by decide)
        · exact absurd (h2.1.symm.trans a0) (by decide)
      · rw [if_neg h3] at h; exact absurd (show (6 : Int) = 0 from h) (by decide)
    · rw [if_neg h2] at h; exact absurd (show (14 : Int) = 0 from h) (by decide)
  · rw [if_neg h1] at h; exact absurd (show (19 : Int) = 0 from h) (by decide)
end Go.Proofs.YthppjdmkinbccaaGreatDoor.Ref

namespace Go.Proofs.YthppjdmkinbccaaGreatDoor.Pure
open Go.RowKit Go.Proofs.YthppjdmkinbccaaGreatDoorW.PrintWords Go.Proofs.YthppjdmkinbccaaGreatDoorW.PrintLast Go.Proofs.YthppjdmkinbccaaGreatDoor.Print Go.Proofs.YthppjdmkinbccaaGreatDoor.Base Go.Proofs.YthppjdmkinbccaaGreatDoor.Ref
set_option linter.unusedVariables false
set_option linter.unusedSimpArgs false
theorem falls_ev (l : List UInt8) (hl : l.length ≤ 140737488351232) (h : (resR l).1 ≠ 0) : Ev (fun k => falls9.f k (bA l) (resR l).1) true := by
  refine Ev.congr (fun k => rfl) (Ev.bind (f := fun (_ : Nat) (bt143 : Bool × List Int × List Int × Int) => if bt143.2.2.2 = (resR l).1 then (if bt143.1 = true then (some false) else (if (bt143.2.1.length : Int) = 0 then (some ((bt143.2.2.1.length : Int) == 0)) else (some false))) else (some false)) (progR_ev l hl) ?_)
  unfold outR
  rw [if_neg h]
  refine Ev.congr (f := fun _ => some true) (fun k => ?_) (Ev.now _)
  rw [if_pos rfl]; rfl
theorem DigitsTexts : Txts9.Pure := by
  intro a0 hs
  refine Ev.rounds (r := true) ?_
  have hk : Ev (fun k => (kn9.f k).bind fun t => some t) true := Ev.bind known_Ev (Ev.now _)
  have kn : Ev (fun k => Txts9.j0 k a0 true) true := Ev.step (fun k => rfl) hk
  have main : Ev (fun k => Txts9.j0 k a0 false) true := by
    rw [← bA_self a0] at hs ⊢
    generalize a0.data.toList = l at hs ⊢
    rw [bA_size] at hs
    have hp := progR_ev l hs
    have hr := refR_ev l hs
    refine Ev.step (f := fun k => (digits_ParseRat.f k (bA l)).bind fun bt102 => ((r4PR.f k (bA l)).bind fun bt111 => (if bt111.2.2.2 = 0 then (if bt102.2.2.2 = 0 then ((r3Is.f k bt111.1 bt111.2.1 bt111.2.2.1 bt102.1 bt102.2.1 bt102.2.2.1).bind fun t120 => (if t120 = true then ((kn9.f k).bind fun t121 => (some t121)) else (none))) else (none)) else (if bt102.2.2.2 = bt111.2.2.2 then ((falls9.f k (bA l) bt102.2.2.2).bind fun t122 => (if t122 = true then ((kn9.f k).bind fun t123 => (some t123)) else (none))) else (none))))) (fun k => ?_) (Ev.bind hp (Ev.bind hr ?_))
    · simp only [Txts9.j0]; rw [if_neg (by decide)]
    · by_cases h : (resR l).1 = 0
      · obtain ⟨q1, q2, _⟩ := resR_ok h
        unfold outR
        rw [if_pos h, if_pos h]
        refine Ev.congr (fun k => by rw [if_pos rfl, if_pos rfl]) (Ev.bind (is3_ev q1 q2 (by decide)) ?_)
        exact Ev.congr (fun k => by rw [if_pos rfl]) hk
      · have hf := falls_ev l hs h
        unfold outR
        rw [if_neg h, if_neg h]
        refine Ev.congr (fun k => by rw [if_neg h, if_pos rfl]) (Ev.bind hf ?_)
        exact Ev.congr (fun k => by rw [if_pos rfl]) hk
  by_cases h : (a0.size : Int) > 120
  · by_cases h2 : (a0.size : Int) ≤ 800
    · refine Ev.congr (fun k => ?_) kn
      unfold Txts9.f; rw [if_pos h, decide_eq_true h2]
    · refine Ev.congr (fun k => ?_) main
      unfold Txts9.f; rw [if_pos h, decide_eq_false h2]
  · refine Ev.congr (fun k => ?_) main
    unfold Txts9.f; rw [if_neg h]
end Go.Proofs.YthppjdmkinbccaaGreatDoor.Pure

namespace Go.Proofs.YthppjdmkinbccaaGreatDoor.digitsTexts
open Go.ChangeShapes Go.WideShapes Go.ChangeAt Go.RowKit
open Go.ChangeMaps (open_string shut_string)
set_option linter.unusedVariables false
theorem own : ownKnob Tryz.prog.godebug = none := by kernel_rfl
noncomputable abbrev W0 (os : Os) : World := World.laidAll Tryz.prog os Rows.digitsTextsRow.laid
theorem laid_met (os : Os) (args : Array Value) : laidMet Tryz.prog Rows.digitsTextsRow.laid ((W0 os).forCall (fun _ _ => 0) ⟨#[], args, []⟩).memory :=
  laidMet_laidAll args (by kernel_rfl) (by kernel_rfl)
theorem witness_row (os : Os) {H : Type} (enc : TypeId × Value → H) :
    (OpenSpec.ofChange Rows.digitsTextsSpec).preRow enc Tryz.prog Tryz.f5 Rows.digitsTextsRow.domain false Rows.digitsTextsRow.laid ((W0 os).forCall (fun _ _ => 0) ⟨#[], #[.string ⟨#[]⟩], []⟩).memory #[.string ⟨#[]⟩] := by
  have hw : (DataW.whole enc Tryz.prog ((W0 os).forCall (fun _ _ => 0) ⟨#[], #[.string ⟨#[]⟩], []⟩).memory Tryz.f5.params.toList (OpenSpec.ofChange Rows.digitsTextsSpec).vars false #[.string ⟨#[]⟩].toList 8).map (fun x => (x.1, x.2.1)) =
      some ([.lit (.string [])], []) := by kernel_rfl
  obtain ⟨⟨x1, x2, x3⟩, hx, hx1⟩ := Option.map_eq_some_iff.1 hw
  simp only [Prod.mk.injEq] at hx1
  obtain ⟨rfl, rfl⟩ := hx1
  exact OpenSpec.preRow_of_cond 8 hx (by kernel_rfl) (fun k hk => by cases hk) (by kernel_rfl) (laid_met os _)
open Print Go.Proofs.YthppjdmkinbccaaGreatDoorW.PrintWords Go.Proofs.YthppjdmkinbccaaGreatDoorW.PrintLast in
theorem lawcall (w : World) (a0 : ByteArray) (w0 : a0.size ≤ 140737488351232) (ht : PowTab w) :
    Calls Tryz.prog 5 #[.string a0] w fun e w' => e = .returned (.bool true) ∧ Below w.heap.size w w' := by
  obtain ⟨k, h⟩ := Pure.DigitsTexts a0 w0
  refine (Txts9.calls k a0 true w ht h).mono ?_
  rintro e w' ⟨rfl, hd⟩
  exact ⟨rfl, hd⟩
set_option maxRecDepth 100000 in
theorem lifted (os : Os) (started : os.Started) (H : Type) (enc : TypeId × Value → H) (G : Stop.Interp) :
    ReturnsInHanded {} Tryz.checked os 5 .any ((OpenSpec.ofChange Rows.digitsTextsSpec).preRow enc Tryz.prog Tryz.f5 Rows.digitsTextsRow.domain false Rows.digitsTextsRow.laid) (((OpenSpec.ofChange Rows.digitsTextsSpec).at G).post enc Tryz.prog Tryz.f5 false true false false) := by
  refine returnsInHanded_of_row (C := Tryz.checked) (s := OpenSpec.ofChange Rows.digitsTextsSpec) own started (by kernel_rfl) Tryz.func5
    (witness_row_atRef (enc := enc) (C := Tryz.checked) false (W0 os) #[.string ⟨#[]⟩] (World.laidAll_os _ _ _) (by kernel_rfl) (by kernel_rfl) (by kernel_rfl) (witness_row os enc)) ?_
  intro W base args ds gs before hval0 hW hcnd _ hsz0 hL _ _
  have hsz : (DataW.weightsEach Tryz.prog (Tryz.f5.params.toList ++ (OpenSpec.ofChange Rows.digitsTextsSpec).bare.plain.varTypes Tryz.prog) (ds ++ gs)).all (· ≤ reachBytes) = true := hsz0
  have hval : ∀ (j : Nat) t v, Tryz.f5.params[j]? = some t → args[j]? = some v → Value.okWide Tryz.prog W .any base t v := hval0
  have hW' := hW
  obtain ⟨p, q, hA0, hV, rfl, hfz, hnd⟩ := hW
  have hA : DataW.TrodAll enc Tryz.prog W 0 (fun _ => true) true Tryz.f5.params.toList args.toList ds p := hA0
  rw [Tryz.params5] at hA hval hsz
  obtain ⟨v0, vs0, d0, ds0, p0, q0, hargs, rfl, rfl, h0, r0⟩ := trodAll_cons hA
  obtain ⟨rfl, rfl, rfl⟩ := trodAll_nil r0
  obtain rfl : args = #[v0] := by cases args; simp_all
  obtain ⟨rfl, rfl⟩ := trodVars_none hV
  obtain ⟨a0, rfl, rfl, rfl, y0⟩ := open_string Tryz.underlying9 (hval 0 9 v0 rfl rfl) h0
  have w0 : a0.size ≤ 140737488351232 := by
    have z := sized_string hsz (j := 0) (t := 9) rfl rfl
    rw [Array.length_toList] at z
    exact z
  have hL' : laidMet Tryz.prog Rows.digitsTextsRow.laid W := hL
  have hT : Print.PowTab W := Lib.tabIs_of_head (g := 1) (t := 151) (e := 59) (n := 20) (by kernel_rfl) (by kernel_rfl) Tryz.underlying151 Tryz.underlying59 (by kernel_rfl) (by kernel_rfl) hL'.tail.tail
  clear hA0 hval0 hsz0 hsz
  refine (lawcall W a0 w0 hT).mono fun e W' ⟨he, bel⟩ => ?_
  subst he
  exact ⟨_, rfl, _, _, _, [], _, [], hW', trodAll_mk1 (shut_bool Tryz.underlying4 _), (trodAll_cons_mk (shut_string Tryz.underlying9 y0) trodAll_mk0), rfl, bel.frame _, fun h => by cases h⟩
theorem said : Rows.DigitsTextsSaid :=
  OpenClaim.holds_of_cond 5 Tryz.f5 rfl rfl rfl rfl rfl rfl rfl ⟨rfl, rfl, rfl, rfl, rfl⟩ rfl rfl rfl rfl rfl (by kernel_rfl) Tryz.func5 (by kernel_rfl)
    (of_decide_eq_true (by kernel_rfl)) (by unfold Func.isWrapper; first | (rw [if_pos (by decide +kernel)]; kernel_rfl) | (rw [if_neg (by decide +kernel)]; exact ⟨rfl, rfl⟩))
    (fun os started H enc _ F => by rw [OpenClaim.pre_eq_preRow]; exact lifted os started H enc F)
theorem plain (f : FuncId) (fn : Func) (hf : Tryz.pinned.checked.prog.funcNamed "fluxion/fluxionlaw04.DigitsTexts" = some f) (hfn : Tryz.pinned.checked.prog.funcs[f]? = some fn) :
    true = Tryz.pinned.checked.prog.looks [] ∧ ∀ (j : Nat) t, fn.params[j]? = some t → Tryz.pinned.checked.prog.wantsStandIn t = false := by
  obtain rfl : f = 5 := Option.some.inj ((show Tryz.prog.funcNamed "fluxion/fluxionlaw04.DigitsTexts" = some 5 by kernel_rfl).symm.trans hf) |>.symm
  obtain rfl : fn = Tryz.f5 := (Option.some.inj (Tryz.func5.symm.trans hfn)).symm
  refine ⟨by kernel_rfl, fun j t ht => ?_⟩
  rw [Tryz.params5] at ht
  have hall : ∀ t ∈ Tryz.f5.params, Tryz.prog.wantsStandIn t = false := of_decide_eq_true (by kernel_rfl)
  exact hall t (by rw [Tryz.params5]; exact Array.mem_of_getElem? ht)
theorem card : Rows.DigitsTextsCardSaid :=
  Claim7.holds_tied_plain_at .later [] _ _ _ _ said (fun _ h => by cases h) (by kernel_rfl) (fun _ h => by cases h) digitsTexts_row_tie rfl ⟨rfl, rfl⟩ (by kernel_rfl) rfl plain (by kernel_rfl)
#print axioms card
end Go.Proofs.YthppjdmkinbccaaGreatDoor.digitsTexts
namespace Go.Proofs.YthppjdmkinbccaaGreatDoor
theorem digitsTexts_holds : Rows.DigitsTextsCardSaid := digitsTexts.card
end Go.Proofs.YthppjdmkinbccaaGreatDoor
