/- Proved here: DigitsReads, the card of the law: any bytes are read as the natural, or refused, as the document says. Without a condition. Written by wip/tools/claimtexts.py: these texts, one behind another, without what this claim does not use: PuRefB, PuNats, PureDigitsReads, LawDigitsReads. -/
import Derived.Test.YthppjdmkinbccaaGreatDoorMgReads8
import Derived.Test.YthppjdmkinbccaaGreatDoorMgReads6
import Derived.Test.YthppjdmkinbccaaGreatDoorMgReads5
import Derived.Test.YthppjdmkinbccaaGreatDoorMgReads2
import Derived.Test.YthppjdmkinbccaaGreatDoorMgReads7
import Derived.Test.YthppjdmkinbccaaGreatDoorCards
import Derived.Test.YthppjdmkinbccaaGreatDoorTie
import Derived.WalkKit
import Derived.ProofKit
import Derived.OpenShut
import Derived.ShutString
import Derived.ChangeOld
import Derived.Below
import Derived.SizedLaws
import Derived.Lay
import Derived.Deep.DeepHandedRow
import Derived.Deep.DeepWitnessRowRef
import Derived.Lib.LaidTab
import Derived.Stop.LaidErr
import Derived.Test.YthppjdmkinbccaaGreatDoorMgReads1
/- Plain laws on the document's naturals: Short, Bits, the digits of a natural, and what is read of digits. No condition beyond those written. -/
namespace Go.Proofs.YthppjdmkinbccaaGreatDoor.Ref
open Go.RowKit Go.Proofs.YthppjdmkinbccaaGreatDoorW.PrintWords Go.Proofs.YthppjdmkinbccaaGreatDoorW.PrintLast Go.Proofs.YthppjdmkinbccaaGreatDoor.Print Go.Proofs.YthppjdmkinbccaaGreatDoor.Base
set_option linter.unusedVariables false
set_option linter.unusedSimpArgs false

/-! ### a division from the top -/
structure Quot (B V : Nat) (l out : List Int) (i : Nat) : Prop where
  len : out.length = l.length
  dig : DigB B out
  low : ∀ t, t < i → limbN out t = 0
  val : valB B out = B ^ i * (valB B (l.drop i) / V)
theorem Quot.start {B V : Nat} (hB : 0 < B) (l : List Int) : Quot B V l (List.replicate l.length 0) l.length := by
  refine ⟨by simp, DigB.zeros B hB _, fun t _ => ?_, by rw [valB_zeros, List.drop_length, valB_nil, Nat.zero_div, Nat.mul_zero]⟩
  unfold limbN
  rcases Nat.lt_or_ge t l.length with c | c
  · simp [c]
  · simp [Nat.not_lt.2 c]
theorem quot_step {B V d X : Nat} (hV : 0 < V) (hd : d < B) : (d + B * X) / V = B * (X / V) + (X % V * B + d) / V ∧ (d + B * X) % V = (X % V * B + d) % V ∧ (X % V * B + d) / V < B := by
  have e : d + B * X = (X % V * B + d) + V * (B * (X / V)) := by
    have h := Nat.mod_add_div X V
    have h2 : B * X = B * (X % V) + B * (V * (X / V)) := by rw [← Nat.mul_add, h]
    rw [h2, Nat.mul_left_comm B V, Nat.mul_comm B (X % V)]; omega
  refine ⟨by rw [e, Nat.add_mul_div_left _ _ hV]; omega, by rw [e, Nat.add_mul_mod_self_left], ?_⟩
  refine Nat.div_lt_of_lt_mul ?_
  have h1 : X % V + 1 ≤ V := Nat.mod_lt X hV
  have h2 := Nat.mul_le_mul_right B h1
  rw [Nat.add_mul, Nat.one_mul] at h2
  omega
theorem Quot.next {B V : Nat} {l out : List Int} {i : Nat} (h : Quot B V l out (i + 1)) (hB : 0 < B) (hV : 0 < V) (hl : DigB B l) (hi : i < l.length) {q : Int}
    (hq : q = (((valB B (l.drop (i + 1)) % V * B + limbN l i) / V : Nat) : Int)) : Quot B V l (out.set i q) i := by
  obtain ⟨h1, h2, h3⟩ := quot_step (X := valB B (l.drop (i + 1))) hV (limbN_lt hB hl i)
  have hio : i < out.length := by rw [h.len]; exact hi
  refine ⟨by rw [List.length_set]; exact h.len, fun x hx => ?_, fun t ht => ?_, ?_⟩
  · rcases List.mem_or_eq_of_mem_set hx with hx | hx
    · exact h.dig x hx
    · rw [hx, hq]; exact ⟨Int.natCast_nonneg _, Int.ofNat_lt.2 h3⟩
  · have := h.low t (by omega)
    unfold limbN at this ⊢
    simpa [show i ≠ t by omega] using this
  · have hs := valB_set (B := B) out i hio q
    have h0 := h.low i (by omega)
    unfold limbN at h0
    rw [h0, Nat.mul_zero, Nat.add_zero, h.val, hq, Int.toNat_natCast] at hs
    rw [hq, hs, valB_drop hi, h1, Nat.pow_succ, Nat.mul_add, Nat.mul_assoc]
theorem Quot.done {V : Nat} {l out : List Int} (h : Quot 10000 V l out 0) : valB 10000 out = valB 10000 l / V := by
  have := h.val
  rwa [Nat.pow_zero, Nat.one_mul, List.drop_zero] at this
theorem Quot.rest {B V : Nat} {l : List Int} {i : Nat} (hB : 0 < B) (hV : 0 < V) (hl : DigB B l) (hi : i < l.length) : valB B (l.drop i) % V = (valB B (l.drop (i + 1)) % V * B + limbN l i) % V := by
  rw [valB_drop hi]; exact (quot_step hV (limbN_lt hB hl i)).2.1

/-! ### Short -/
theorem short_loop {l : List Int} (hl : DigB 10000 l) (h9 : l.length ≤ 1000000) {d : Nat} (d0 : 0 < d) (d1 : d ≤ 4294967296) : ∀ (i : Nat) (out : List Int), i ≤ l.length → Quot 10000 d l out i →
    Ev (fun k => fluxionref01_Short.l0 k l (d : Int) out ((valB 10000 (l.drop i) % d : Nat) : Int) ((i : Int) - 1)) (digB 10000 (valB 10000 l / d), ((valB 10000 l % d : Nat) : Int))
  | 0, out, _, hq => by
    have ht := trim_ev hq.dig (by rw [hq.len]; omega)
    rw [hq.done] at ht
    refine Ev.step (fun k => ?_) (Ev.bind (f := fun _ t => some (t, ((valB 10000 l % d : Nat) : Int))) ht (Ev.now _))
    simp only [fluxionref01_Short.l0]
    rw [if_neg (by omega), List.drop_zero]
  | j + 1, out, hj, hq => by
    have hlim := limb_lt hl j
    have hr := Nat.mod_lt (valB 10000 (l.drop (j + 1))) d0
    have ih := short_loop hl h9 d0 d1 j _ (by omega) (hq.next (by decide) d0 hl (by omega) rfl)
    rw [Quot.rest (by decide) d0 hl (show j < l.length by omega)] at ih
    refine Ev.step (fun k => ?_) ih
    simp only [fluxionref01_Short.l0]
    have e1 : wrap64 ((wrap64 (((valB 10000 (l.drop (j + 1)) % d : Nat) : Int) * 10000)) + ((limbN l j : Nat) : Int)) = ((valB 10000 (l.drop (j + 1)) % d * 10000 + limbN l j : Nat) : Int) := by
      rw [show (10000 : Int) = ((10000 : Nat) : Int) from rfl, ← Int.natCast_mul, w64n (by omega), ← Int.natCast_add, w64n (by omega)]
    have hlt : (valB 10000 (l.drop (j + 1)) % d * 10000 + limbN l j) / d ≤ 9223372036854775807 := Nat.le_trans (Nat.div_le_self _ _) (by omega)
    rw [show ((j + 1 : Nat) : Int) - 1 = (j : Int) by omega, if_pos (by omega), if_pos (by omega), if_pos (by omega), if_neg (by omega), if_pos (by rw [hq.len]; omega), rd_limb hl, e1, tdiv_nat, tmod_nat, w64n hlt, w64 (by omega) (by omega), Int.toNat_natCast]
theorem short_ev {x d : Nat} (hx : (digB 10000 x).length ≤ 1000000) (d0 : 0 < d) (d1 : d ≤ 4294967296) : Ev (fun k => fluxionref01_Short.f k (digB 10000 x) (d : Int)) (digB 10000 (x / d), ((x % d : Nat) : Int)) := by
  have h := short_loop (T_good x).dig hx d0 d1 (digB 10000 x).length _ (by omega) (Quot.start (by decide) _)
  rw [T_val, List.drop_length, show valB 10000 [] % d = 0 by rw [valB_nil]; exact Nat.zero_mod d] at h
  refine Ev.congr (fun k => ?_) h
  unfold fluxionref01_Short.f
  rw [if_pos (by omega), if_pos (by omega), Int.toNat_natCast, w64 (by omega) (by omega)]; rfl

/-! ### Bits -/
def nb (x : Nat) : Nat := if x = 0 then 0 else x.log2 + 1
theorem nb_half {x : Nat} (h : 0 < x) : nb x = nb (x / 2) + 1 := by
  unfold nb
  rw [if_neg (by omega)]
  by_cases h1 : x = 1
  · subst h1; rfl
  · rw [if_neg (by omega), show x.log2 = (x / 2).log2 + 1 by rw [Nat.log2_def x, if_pos (by omega)]]
theorem nb_le {x n : Nat} : nb x ≤ n ↔ x < 2 ^ n := by
  unfold nb
  by_cases h : x = 0
  · rw [if_pos h, h]; exact ⟨fun _ => Nat.pow_pos (by decide), fun _ => Nat.zero_le _⟩
  · rw [if_neg h, ← Nat.log2_lt h]; omega
theorem bits_loop : ∀ (n x c : Nat), x < 2 ^ n → (digB 10000 x).length ≤ 1000000 → c + n ≤ 1000000000 → Ev (fun k => fluxionref01_Bits.l0 k (digB 10000 x) (c : Int)) ((c + nb x : Nat) : Int)
  | 0, x, c, h, _, _ => by
    obtain rfl : x = 0 := by simpa using h
    rw [digB_zero _ (by decide)]
    refine Ev.step (f := fun _ => some ((c : Nat) : Int)) (fun k => ?_) (Ev.now _)
    simp only [fluxionref01_Bits.l0]; rw [if_neg (by simp)]
  | n + 1, x, c, h, hl, hc => by
    by_cases h0 : x = 0
    · subst h0
      rw [digB_zero _ (by decide)]
      refine Ev.step (f := fun _ => some ((c : Nat) : Int)) (fun k => ?_) (Ev.now _)
      simp only [fluxionref01_Bits.l0]; rw [if_neg (by simp)]
    · have ih := bits_loop n (x / 2) (c + 1) (Nat.div_lt_of_lt_mul (by rw [Nat.pow_succ, Nat.mul_comm] at h; exact h)) (Nat.le_trans (T_len_le (Nat.div_le_self x 2)) hl) (by omega)
      have hs := short_ev hl (d := 2) (by decide) (by decide)
      rw [show ((2 : Nat) : Int) = 2 from rfl] at hs
      have hne : 0 < (digB 10000 x).length := Nat.pos_of_ne_zero (fun e => h0 ((digB_nil x).1 (List.eq_nil_of_length_eq_zero e)))
      rw [show c + nb x = c + 1 + nb (x / 2) by rw [nb_half (by omega)]; omega]
      refine Ev.step (fun k => ?_) (Ev.bind (f := fun k bt => fluxionref01_Bits.l0 k bt.1 ((c + 1 : Nat) : Int)) hs ih)
      simp only [fluxionref01_Bits.l0]
      rw [if_pos (by omega), w64 (by omega) (by omega)]; rfl
theorem bits_ev {x n : Nat} (h : x < 2 ^ n) (hl : (digB 10000 x).length ≤ 1000000) (hn : n ≤ 1000000000) : Ev (fun k => fluxionref01_Bits.f k (digB 10000 x)) ((nb x : Nat) : Int) := by
  have := bits_loop n x 0 h hl (by omega)
  rw [Nat.zero_add] at this
  exact this

/-! ### the digits of a natural -/
def bA (l : List UInt8) : ByteArray := ⟨l.toArray⟩
theorem bt_lst (s : ByteArray) (i : Nat) (h : i < s.data.toList.length) : bt s (i : Int) = ((s.data.toList[i].toNat : Nat) : Int) := by
  rw [← bt_at s i (by simpa using h)]; rfl
/-! ### reading -/
theorem natural_loop (s : ByteArray) (h9 : s.size ≤ 4611686018427387904) : ∀ (m i : Nat), i + m = s.size → Ev (fun k => fluxionref04_natural.l0 k s (i : Int)) ((s.data.toList.drop i).all isDig && !(s.data.toList == [] || (decide (1 < s.data.toList.length) && s.data.toList.head? == some 48))) := by
  have hsz : s.data.toList.length = s.size := size_toList2 s
  intro m
  induction m with
  | zero =>
    intro i hi
    rw [List.drop_eq_nil_of_le (by omega), List.all_nil, Bool.true_and]
    refine Ev.step (f := fun _ => some (!(s.data.toList == [] || (decide (1 < s.data.toList.length) && s.data.toList.head? == some 48)))) (fun k => ?_) (Ev.now _)
    simp only [fluxionref04_natural.l0]
    rw [if_neg (by omega)]
    by_cases h0 : s.size = 0
    · have hnil : s.data.toList = [] := List.eq_nil_of_length_eq_zero (by omega)
      rw [if_neg (by omega), hnil]; rfl
    · rw [if_pos (by omega), if_pos (by omega)]
      have hb : ∀ c r, s.data.toList = c :: r → bt s 0 = ((c.toNat : Nat) : Int) := fun c r e => by
        have hb := bt_lst s 0 (by omega)
        rw [List.getElem_of_eq e] at hb
        exact hb
      generalize s.data.toList = L at hb hsz ⊢
      cases L with
      | nil => simp at hsz; omega
      | cons c r =>
        rw [hb c r rfl]
        have h48 : (48 : UInt8).toNat = 48 := rfl
        by_cases c48 : c = 48
        · subst c48
          rw [if_pos (by omega)]
          congr 1
          by_cases h1 : s.size = 1
          · have hr : r = [] := List.eq_nil_of_length_eq_zero (by simp at hsz; omega)
            subst hr
            rw [h1]; rfl
          · have h2 : ((s.size : Int) == 1) = false := by rw [beq_eq_false_iff_ne]; omega
            rw [h2, decide_eq_true (show 1 < ((48 : UInt8) :: r).length by rw [hsz]; omega)]; rfl
        · have hne : ((c.toNat : Nat) : Int) ≠ 48 := fun e => c48 (UInt8.toNat_inj.1 (by omega))
          rw [if_neg hne]
          simp [c48]
  | succ m ih =>
    intro i hi
    have hi2 : i < s.data.toList.length := by omega
    rw [List.drop_eq_getElem_cons hi2, List.all_cons]
    have hb := bt_lst s i hi2
    generalize s.data.toList[i] = x at hb ⊢
    by_cases hd : isDig x = true
    · rw [hd, Bool.true_and]
      refine Ev.step (fun k => ?_) (ih (i + 1) (by omega))
      simp [isDig] at hd
      simp only [fluxionref04_natural.l0]
      rw [if_pos (by omega), if_pos (by omega), hb, if_neg (by simp at hd ⊢; omega), if_neg (by simp at hd ⊢; omega), w64 (by omega) (by omega)]; rfl
    · have hd2 : isDig x = false := by simpa using hd
      rw [hd2, Bool.false_and, Bool.false_and]
      refine Ev.step (f := fun _ => some false) (fun k => ?_) (Ev.now _)
      simp only [fluxionref04_natural.l0]
      rw [if_pos (by omega), if_pos (by omega), hb]
      have h3 : x.toNat < 48 ∨ 57 < x.toNat := by
        unfold isDig at hd2
        rcases Bool.and_eq_false_iff.1 hd2 with h | h <;> simp at h <;> omega
      rcases h3 with h | h
      · rw [if_pos (by omega)]
      · rw [if_neg (by omega), if_pos (by omega)]
theorem natural_ev (s : ByteArray) (h9 : s.size ≤ 4611686018427387904) : Ev (fun k => fluxionref04_natural.f k s) (natB s.data.toList) := by
  have h := natural_loop s h9 s.size 0 (by omega)
  rw [List.drop_zero, Bool.and_comm] at h
  exact h
theorem number_loop (s : ByteArray) (hd : DigL s.data.toList) (h9 : s.size ≤ 1000) : ∀ (m i : Nat), i + m = s.size → Ev (fun k => fluxionref04_number.l0 k s (digB 10000 (numD (s.data.toList.take i))) (i : Int)) (digB 10000 (numD s.data.toList)) := by
  have hsz : s.data.toList.length = s.size := size_toList2 s
  intro m
  induction m with
  | zero =>
    intro i hi
    rw [List.take_of_length_le (by omega)]
    refine Ev.step (f := fun _ => some (digB 10000 (numD s.data.toList))) (fun k => ?_) (Ev.now _)
    simp only [fluxionref04_number.l0]; rw [if_neg (by omega)]
  | succ m ih =>
    intro i hi
    have hi2 : i < s.data.toList.length := by omega
    have hb := bt_lst s i hi2
    have hdi := hd _ (List.getElem_mem hi2)
    have ih := ih (i + 1) (by omega)
    rw [List.take_succ_eq_append_getElem hi2, numD_snoc] at ih
    have hlt := numD_lt _ (fun x hx => hd x (List.mem_of_mem_take hx) : DigL (s.data.toList.take i))
    rw [List.length_take, Nat.min_eq_left (by omega)] at hlt
    generalize numD (s.data.toList.take i) = v at ih hlt ⊢
    generalize hc : s.data.toList[i].toNat - 48 = c at ih
    have hv : v < 10000 ^ i := Nat.lt_of_lt_of_le hlt (Nat.pow_le_pow_left (by decide) i)
    have hv2 : v * 10 < 10000 ^ (i + 1) := by
      rw [Nat.pow_succ]; exact Nat.lt_of_lt_of_le (Nat.mul_lt_mul_of_pos_right hv (by decide)) (Nat.mul_le_mul_left _ (by decide))
    have l1 := digB_len (by decide) hv
    have l2 := digB_len (by decide) hv2
    have l3 := digB_len (B := 10000) (v := c) (n := 1) (by decide) (by rw [Nat.pow_one]; omega)
    rw [show 10 * v + c = v * 10 + c by omega] at ih
    have s2 := Ev.bind (f := fun k t => fluxionref04_number.l0 k s t ((i + 1 : Nat) : Int)) (add_ev (x := v * 10) (y := c) (by omega) (by omega)) ih
    have s1 := Ev.bind (f := fun k t => (fluxionref01_Add.f k (digB 10000 (v * 10)) t).bind fun u => fluxionref04_number.l0 k s u ((i + 1 : Nat) : Int)) (small_ev (v := c) (by omega)) s2
    have s0 := Ev.bind (f := fun k t => (fluxionref01_Small.f k (c : Int)).bind fun w => (fluxionref01_Add.f k t w).bind fun u => fluxionref04_number.l0 k s u ((i + 1 : Nat) : Int)) (times_ten (x := v) (by omega)) s1
    refine Ev.step (fun k => ?_) s0
    have p0 : (0 : Int) ≤ (i : Int) := by omega
    have p1 : (i : Int) < (s.size : Int) := by omega
    have p2 : wrap64 ((i : Int) + 1) = ((i + 1 : Nat) : Int) := by rw [w64 (by omega) (by omega)]; rfl
    have p3 : wrap64 (wrap64 (bt s (i : Int)) - 48) = (c : Int) := by rw [hb, w64n (by omega), w64 (by omega) (by omega)]; omega
    simp only [fluxionref04_number.l0, if_pos p0, if_pos p1, p2, p3]
theorem number_ev (s : ByteArray) (hd : DigL s.data.toList) (h9 : s.size ≤ 1000) : Ev (fun k => fluxionref04_number.f k s) (digB 10000 (numD s.data.toList)) := by
  have h := number_loop s hd h9 s.size 0 (by omega)
  rw [List.take_zero, show numD [] = 0 from rfl, digB_zero _ (by decide)] at h
  exact h
theorem limbs_most (n a : Nat) (h : n = a * 32) (ha : a = 32) : (4294967296 : Nat) ^ 32 = 2 ^ n := by
  rw [h, Nat.pow_mul, ha]
/-- What the document reads of bytes. -/
def refNat (l : List UInt8) : List Int × Int := if natB l = true then (if 400 < l.length then ([], 14) else if numD l < 4294967296 ^ 32 then (digB 10000 (numD l), 0) else ([], 14)) else ([], 19)
theorem parse_ev (s : ByteArray) (h9 : s.size ≤ 4611686018427387904) : Ev (fun k => fluxionref04_ParseNat.f k s) (refNat s.data.toList) := by
  have hsz : s.data.toList.length = s.size := size_toList2 s
  unfold refNat
  refine Ev.congr (fun k => rfl) (Ev.bind (f := fun k t => if t = true then (if (s.size : Int) > 400 then (some (([] : List Int), 14)) else ((fluxionref04_number.f k s).bind fun t269 => ((fluxionref01_Bits.f k t269).bind fun t272 => (if t272 > 1024 then (some (([] : List Int), 14)) else (some (t269, 0)))))) else (some (([] : List Int), 19))) (natural_ev s h9) ?_)
  by_cases hn : natB s.data.toList = true
  · by_cases h4 : 400 < s.size
    · refine Ev.congr (f := fun _ => some (([] : List Int), 14)) (fun k => ?_) (by rw [if_pos hn, if_pos (by omega)]; exact Ev.now _)
      rw [hn, if_pos rfl, if_pos (by omega)]
    · have hd := (natB_iff.1 hn).2.1
      have hlt := numD_lt _ hd
      rw [hsz] at hlt
      have hlt2 : numD s.data.toList < 10000 ^ s.size := Nat.lt_of_lt_of_le hlt (Nat.pow_le_pow_left (by decide) _)
      have l1 := digB_len (by decide) hlt2
      have hlt3 : numD s.data.toList < 2 ^ (4 * s.size) := by rw [Nat.pow_mul]; exact Nat.lt_of_lt_of_le hlt (Nat.pow_le_pow_left (by decide) _)
      have hb := bits_ev hlt3 (by omega) (by omega)
      rw [if_pos hn, if_neg (by omega)]
      refine Ev.congr (f := fun k => (fluxionref04_number.f k s).bind fun t269 => ((fluxionref01_Bits.f k t269).bind fun t272 => (if t272 > 1024 then (some (([] : List Int), 14)) else (some (t269, 0))))) (fun k => ?_) (Ev.bind (number_ev s hd (by omega)) (Ev.bind hb ?_))
      · rw [hn, if_pos rfl, if_neg (by omega)]
      · obtain ⟨n, hn2⟩ : ∃ n : Nat, n = 1024 := ⟨_, rfl⟩
        rw [limbs_most n 32 (by omega) rfl]
        by_cases hc : nb (numD s.data.toList) ≤ n
        · rw [if_pos (nb_le.1 hc), if_neg (by omega)]; exact Ev.now _
        · rw [if_neg (fun c => hc (nb_le.2 c)), if_pos (by omega)]; exact Ev.now _
  · refine Ev.congr (f := fun _ => some (([] : List Int), 19)) (fun k => ?_) (by rw [if_neg hn]; exact Ev.now _)
    rw [if_neg hn]
end Go.Proofs.YthppjdmkinbccaaGreatDoor.Ref

/- Plain laws of chapter 04: what the program reads of digits, held against the document's. -/
namespace Go.Proofs.YthppjdmkinbccaaGreatDoor.Ref
open Go.RowKit Go.Proofs.YthppjdmkinbccaaGreatDoorW.PrintWords Go.Proofs.YthppjdmkinbccaaGreatDoorW.PrintLast Go.Proofs.YthppjdmkinbccaaGreatDoor.Print Go.Proofs.YthppjdmkinbccaaGreatDoor.Base
set_option linter.unusedVariables false
set_option linter.unusedSimpArgs false

theorem known_Ev : Ev (fun k => fluxionlaw04_known.f k) true := ⟨3, known_evK⟩
theorem le_pow10 {k a b : Nat} (h : a * b ≤ k) : (10 ^ a) ^ b ≤ 10 ^ k := by
  rw [← Nat.pow_mul]; exact Nat.pow_le_pow_right (by decide) h
/-- What the program reads of bytes. -/
def progNat (l : List UInt8) : List Int × Int := if natB l = true then (if 309 < l.length then ([], 14) else if numD l < 4294967296 ^ 32 then (digB 4294967296 (numD l), 0) else ([], 14)) else ([], 19)
theorem prog_f (s : ByteArray) : digits_ParseNat.f s = some (progNat s.data.toList) := by
  unfold digits_ParseNat.f digits_natural.f progNat
  rw [Option.bind_some]
  by_cases h : natB s.data.toList = true
  · rw [if_pos h, if_pos h]
    unfold digits_read.f
    rw [if_pos h, size_toList2]
    split
    · rfl
    · split <;> rfl
  · rw [if_neg h, if_neg h]
theorem num_big {l : List UInt8} (h : NatL l) (hl : 309 < l.length) : 4294967296 ^ 32 ≤ numD l := by
  obtain ⟨h1, h2, h3⟩ := h
  cases l with
  | nil => simp at hl
  | cons c r =>
    have hc : c ≠ 48 := fun e => by
      have := h3 (by rw [e]; rfl)
      omega
    have hd := h2 c (List.mem_cons_self ..)
    have hne : c.toNat ≠ 48 := fun e => hc (UInt8.toNat_inj.1 (by have h48 : (48 : UInt8).toNat = 48 := rfl; omega))
    have e1 : numD (c :: r) = numF (10 * 0 + (c.toNat - 48)) r := rfl
    rw [e1, numF_eq]
    have hr : 309 ≤ r.length := by simp at hl; omega
    have a1 : 4294967296 ^ 32 ≤ (10 ^ 103) ^ 3 := Nat.le_of_ble_eq_true rfl
    have a2 : (10 ^ 103) ^ 3 ≤ 10 ^ r.length := le_pow10 hr
    have a3 : 1 * 10 ^ r.length ≤ (10 * 0 + (c.toNat - 48)) * 10 ^ r.length := Nat.mul_le_mul_right _ (by omega)
    exact Nat.le_trans a1 (Nat.le_trans a2 (Nat.le_trans (by rw [Nat.one_mul] at a3; exact a3) (Nat.le_add_right _ _)))
/-- The document and the program read the same. -/
theorem read_same (l : List UInt8) : (progNat l = ([], 19) ∧ refNat l = ([], 19)) ∨ (progNat l = ([], 14) ∧ refNat l = ([], 14)) ∨ (natB l = true ∧ l.length ≤ 309 ∧ numD l < 4294967296 ^ 32 ∧ progNat l = (digB 4294967296 (numD l), 0) ∧ refNat l = (digB 10000 (numD l), 0)) := by
  unfold progNat refNat
  by_cases h : natB l = true
  · rw [if_pos h, if_pos h]
    by_cases h4 : 400 < l.length
    · rw [if_pos h4, if_pos (by omega)]; exact Or.inr (Or.inl ⟨rfl, rfl⟩)
    · rw [if_neg h4]
      by_cases h3 : 309 < l.length
      · have := num_big (natB_iff.1 h) h3
        rw [if_pos h3, if_neg (Nat.not_lt.2 this)]; exact Or.inr (Or.inl ⟨rfl, rfl⟩)
      · rw [if_neg h3]
        by_cases h2 : numD l < 4294967296 ^ 32
        · rw [if_pos h2, if_pos h2]; exact Or.inr (Or.inr ⟨h, by omega, h2, rfl, rfl⟩)
        · rw [if_neg h2, if_neg h2]; exact Or.inr (Or.inl ⟨rfl, rfl⟩)
  · rw [if_neg h, if_neg h]; exact Or.inl ⟨rfl, rfl⟩
theorem is_nil : Ev (fun k => fluxionref01_Is.f k [] []) true := by
  have h := is_ev (x := 0) (y := 0) (n := 1) (by decide) (by decide)
  rw [digB_zero _ (by decide), digB_zero _ (by decide)] at h
  exact h
end Go.Proofs.YthppjdmkinbccaaGreatDoor.Ref

/- The plain law of DigitsReads. -/
namespace Go.Proofs.YthppjdmkinbccaaGreatDoor.Pure
open Go.RowKit Go.Proofs.YthppjdmkinbccaaGreatDoorW.PrintWords Go.Proofs.YthppjdmkinbccaaGreatDoorW.PrintLast Go.Proofs.YthppjdmkinbccaaGreatDoor.Print Go.Proofs.YthppjdmkinbccaaGreatDoor.Base Go.Proofs.YthppjdmkinbccaaGreatDoor.Ref
set_option linter.unusedVariables false
set_option linter.unusedSimpArgs false

theorem DigitsReads : fluxionlaw04_DigitsReads.Pure := by
  intro a0 hs
  refine Ev.rounds (r := true) ?_
  have hp := parse_ev a0 (by omega)
  have hk : Ev (fun k => (fluxionlaw04_known.f k).bind fun t => some t) true := Ev.bind known_Ev (Ev.now _)
  refine Ev.congr (fun k => ?_) (Ev.bind (f := fun k bt105 => if (progNat a0.data.toList).2 = bt105.2 then ((fluxionref01_Is.f k bt105.1 (progNat a0.data.toList).1).bind fun t109 => if t109 = true then ((fluxionlaw04_known.f k).bind fun t110 => some t110) else none) else none) hp ?_)
  · unfold fluxionlaw04_DigitsReads.f; rw [prog_f]; rfl
  · rcases read_same a0.data.toList with ⟨e1, e2⟩ | ⟨e1, e2⟩ | ⟨hn, hl, hlt, e1, e2⟩
    · rw [e1, e2]
      refine Ev.congr (fun k => by rw [if_pos rfl]) (Ev.bind is_nil ?_)
      exact Ev.congr (fun k => by rw [if_pos rfl]) hk
    · rw [e1, e2]
      refine Ev.congr (fun k => by rw [if_pos rfl]) (Ev.bind is_nil ?_)
      exact Ev.congr (fun k => by rw [if_pos rfl]) hk
    · rw [e1, e2]
      have hi := is_ev (x := numD a0.data.toList) hlt (by decide)
      rw [decide_eq_true rfl] at hi
      refine Ev.congr (fun k => by rw [if_pos rfl]) (Ev.bind hi ?_)
      exact Ev.congr (fun k => by rw [if_pos rfl]) hk
end Go.Proofs.YthppjdmkinbccaaGreatDoor.Pure

/- DigitsReads: the law's tied card; the listed package variables hold what the program's text lays. -/
namespace Go.Proofs.YthppjdmkinbccaaGreatDoor.digitsReads
open Go.ChangeShapes Go.WideShapes Go.ChangeAt Go.RowKit
open Go.ChangeMaps (open_string shut_string)
set_option linter.unusedVariables false
theorem own : ownKnob Tryz.prog.godebug = none := by kernel_rfl
noncomputable abbrev W0 (os : Os) : World := World.laidAll Tryz.prog os Rows.digitsReadsRow.laid
theorem laid_met (os : Os) (args : Array Value) : laidMet Tryz.prog Rows.digitsReadsRow.laid ((W0 os).forCall (fun _ _ => 0) ⟨#[], args, []⟩).memory :=
  laidMet_laidAll args (by kernel_rfl) (by kernel_rfl)
theorem witness_row (os : Os) {H : Type} (enc : TypeId × Value → H) :
    (OpenSpec.ofChange Rows.digitsReadsSpec).preRow enc Tryz.prog Tryz.f3 Rows.digitsReadsRow.domain false Rows.digitsReadsRow.laid ((W0 os).forCall (fun _ _ => 0) ⟨#[], #[.string ⟨#[]⟩], []⟩).memory #[.string ⟨#[]⟩] := by
  have hw : (DataW.whole enc Tryz.prog ((W0 os).forCall (fun _ _ => 0) ⟨#[], #[.string ⟨#[]⟩], []⟩).memory Tryz.f3.params.toList (OpenSpec.ofChange Rows.digitsReadsSpec).vars false #[.string ⟨#[]⟩].toList 8).map (fun x => (x.1, x.2.1)) =
      some ([.lit (.string [])], []) := by kernel_rfl
  obtain ⟨⟨x1, x2, x3⟩, hx, hx1⟩ := Option.map_eq_some_iff.1 hw
  simp only [Prod.mk.injEq] at hx1
  obtain ⟨rfl, rfl⟩ := hx1
  exact OpenSpec.preRow_of_cond 8 hx (by kernel_rfl) (fun k hk => by cases hk) (by kernel_rfl) (laid_met os _)
open Print Go.Proofs.YthppjdmkinbccaaGreatDoorW.PrintWords Go.Proofs.YthppjdmkinbccaaGreatDoorW.PrintLast in
theorem lawcall (w : World) (a0 : ByteArray) (w0 : a0.size ≤ 140737488351232) (ht : PowTab w) :
    Calls Tryz.prog 3 #[.string a0] w fun e w' => e = .returned (.bool true) ∧ Below w.heap.size w w' := by
  obtain ⟨k, h⟩ := Pure.DigitsReads a0 w0
  refine (fluxionlaw04_DigitsReads.calls k a0 true w ht h).mono ?_
  rintro e w' ⟨rfl, hd⟩
  exact ⟨rfl, hd⟩
set_option maxRecDepth 100000 in
theorem lifted (os : Os) (started : os.Started) (H : Type) (enc : TypeId × Value → H) (G : Stop.Interp) :
    ReturnsInHanded {} Tryz.checked os 3 .any ((OpenSpec.ofChange Rows.digitsReadsSpec).preRow enc Tryz.prog Tryz.f3 Rows.digitsReadsRow.domain false Rows.digitsReadsRow.laid) (((OpenSpec.ofChange Rows.digitsReadsSpec).at G).post enc Tryz.prog Tryz.f3 false true false false) := by
  refine returnsInHanded_of_row (C := Tryz.checked) (s := OpenSpec.ofChange Rows.digitsReadsSpec) own started (by kernel_rfl) Tryz.func3
    (witness_row_atRef (enc := enc) (C := Tryz.checked) false (W0 os) #[.string ⟨#[]⟩] (World.laidAll_os _ _ _) (by kernel_rfl) (by kernel_rfl) (by kernel_rfl) (witness_row os enc)) ?_
  intro W base args ds gs before hval0 hW hcnd _ hsz0 hL _ _
  have hsz : (DataW.weightsEach Tryz.prog (Tryz.f3.params.toList ++ (OpenSpec.ofChange Rows.digitsReadsSpec).bare.plain.varTypes Tryz.prog) (ds ++ gs)).all (· ≤ reachBytes) = true := hsz0
  have hval : ∀ (j : Nat) t v, Tryz.f3.params[j]? = some t → args[j]? = some v → Value.okWide Tryz.prog W .any base t v := hval0
  have hW' := hW
  obtain ⟨p, q, hA0, hV, rfl, hfz, hnd⟩ := hW
  have hA : DataW.TrodAll enc Tryz.prog W 0 (fun _ => true) true Tryz.f3.params.toList args.toList ds p := hA0
  rw [Tryz.params3] at hA hval hsz
  obtain ⟨v0, vs0, d0, ds0, p0, q0, hargs, rfl, rfl, h0, r0⟩ := trodAll_cons hA
  obtain ⟨rfl, rfl, rfl⟩ := trodAll_nil r0
  obtain rfl : args = #[v0] := by cases args; simp_all
  obtain ⟨rfl, rfl⟩ := trodVars_none hV
  obtain ⟨a0, rfl, rfl, rfl, y0⟩ := open_string Tryz.underlying9 (hval 0 9 v0 rfl rfl) h0
  have w0 : a0.size ≤ 140737488351232 := by
    have z := sized_string hsz (j := 0) (t := 9) rfl rfl
    rw [Array.length_toList] at z
    exact z
  have hL' : laidMet Tryz.prog Rows.digitsReadsRow.laid W := hL
  have hT : Print.PowTab W := Lib.tabIs_of_head (g := 1) (t := 151) (e := 59) (n := 20) (by kernel_rfl) (by kernel_rfl) Tryz.underlying151 Tryz.underlying59 (by kernel_rfl) (by kernel_rfl) hL'.tail.tail
  clear hA0 hval0 hsz0 hsz
  refine (lawcall W a0 w0 hT).mono fun e W' ⟨he, bel⟩ => ?_
  subst he
  exact ⟨_, rfl, _, _, _, [], _, [], hW', trodAll_mk1 (shut_bool Tryz.underlying4 _), (trodAll_cons_mk (shut_string Tryz.underlying9 y0) trodAll_mk0), rfl, bel.frame _, fun h => by cases h⟩
theorem said : Rows.DigitsReadsSaid :=
  OpenClaim.holds_of_cond 3 Tryz.f3 rfl rfl rfl rfl rfl rfl rfl ⟨rfl, rfl, rfl, rfl, rfl⟩ rfl rfl rfl rfl rfl (by kernel_rfl) Tryz.func3 (by kernel_rfl)
    (of_decide_eq_true (by kernel_rfl)) (by unfold Func.isWrapper; first | (rw [if_pos (by decide +kernel)]; kernel_rfl) | (rw [if_neg (by decide +kernel)]; exact ⟨rfl, rfl⟩))
    (fun os started H enc _ F => by rw [OpenClaim.pre_eq_preRow]; exact lifted os started H enc F)
theorem plain (f : FuncId) (fn : Func) (hf : Tryz.pinned.checked.prog.funcNamed "fluxion/fluxionlaw04.DigitsReads" = some f) (hfn : Tryz.pinned.checked.prog.funcs[f]? = some fn) :
    true = Tryz.pinned.checked.prog.looks [] ∧ ∀ (j : Nat) t, fn.params[j]? = some t → Tryz.pinned.checked.prog.wantsStandIn t = false := by
  obtain rfl : f = 3 := Option.some.inj ((show Tryz.prog.funcNamed "fluxion/fluxionlaw04.DigitsReads" = some 3 by kernel_rfl).symm.trans hf) |>.symm
  obtain rfl : fn = Tryz.f3 := (Option.some.inj (Tryz.func3.symm.trans hfn)).symm
  refine ⟨by kernel_rfl, fun j t ht => ?_⟩
  rw [Tryz.params3] at ht
  have hall : ∀ t ∈ Tryz.f3.params, Tryz.prog.wantsStandIn t = false := of_decide_eq_true (by kernel_rfl)
  exact hall t (by rw [Tryz.params3]; exact Array.mem_of_getElem? ht)
theorem card : Rows.DigitsReadsCardSaid :=
  Claim7.holds_tied_plain_at .later [] _ _ _ _ said (fun _ h => by cases h) (by kernel_rfl) (fun _ h => by cases h) digitsReads_row_tie rfl ⟨rfl, rfl⟩ (by kernel_rfl) rfl plain (by kernel_rfl)
#print axioms card
end Go.Proofs.YthppjdmkinbccaaGreatDoor.digitsReads
namespace Go.Proofs.YthppjdmkinbccaaGreatDoor
/-- The row, under a short name, for the claim. -/
theorem digitsReads_holds : Rows.DigitsReadsCardSaid := digitsReads.card
end Go.Proofs.YthppjdmkinbccaaGreatDoor
