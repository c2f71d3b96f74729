/- Written by wip/tools/claimtexts.py: these texts, one behind another, without what this claim does not use: HQuo, HTake, HCmp, HDiv, C1, HMake. -/
import Derived.Test.YtibaoacjjcgjlaaGreatDoorMgApt2
import Derived.WalkKit
import Derived.Laws.BitsAll
import Derived.Shelf.RegionOpen
import Derived.Ground.NamesProg
import Derived.Shelf.Lay
import Derived.Shelf.Small.Bits
namespace Go.Proofs.YtibaoacjjcgjlaaGreatDoor.Print
open Go.RowKit Go.Proofs.YtibaoacjjcgjlaaGreatDoorW.PrintWords Go.Proofs.YtibaoacjjcgjlaaGreatDoorW.PrintLast Go.Proofs.YtibaoacjjcgjlaaGreatDoorW.PrintMore Go.Proofs.YtibaoacjjcgjlaaGreatDoor.Base
set_option linter.unusedVariables false
set_option linter.unusedSimpArgs false
theorem rd_nat {B : Nat} {l : List Int} (h : DigB B l) {i : Nat} (hi : i < l.length) : rd l (i : Int) = ((limbN l i : Nat) : Int) ∧ limbN l i < B := by
  have hm := h l[i] (List.getElem_mem hi)
  have e : limbN l i = l[i].toNat := by simp [limbN, hi]
  have e2 : rd l (i : Int) = l[i] := by simp [rd, hi]
  rw [e, e2]
  omega
theorem valB_take_succ {B : Nat} (l : List Int) {i : Nat} (hi : i < l.length) : valB B (l.take (i + 1)) = valB B (l.take i) + B ^ i * limbN l i := by
  rw [List.take_succ_eq_append_getElem hi, valB_append, valB_cons, valB_nil, List.length_take, Nat.min_eq_left (by omega)]
  simp [limbN, hi]
theorem u64_id {n : Nat} (h : n < 18446744073709551616) : IntKind.u64.wrap (n : Int) = (n : Int) := by rw [IntKind.wrap_u64]; omega
theorem trim_f {l : List Int} (h : okN l = true) : nat_Trim.f l = some (trimL l) := by unfold nat_Trim.f; rw [if_pos h]
theorem or_limb (r a : Nat) (hr : r < 4294967296) (ha : a < 4294967296) : Go.bits .or .u64 (IntKind.u64.wrap ((r : Int) * 4294967296)) (IntKind.u64.wrap (a : Int)) = ((r * 4294967296 + a : Nat) : Int) := by
  rw [show (r : Int) * 4294967296 = ((r * 4294967296 : Nat) : Int) by omega, u64_id (by omega), u64_id (by omega), or_add r a hr ha]
theorem short_law (l : List Int) (hl : l.length ≤ 1048576) (hd : DigB 4294967296 l) (d : Nat) (d0 : 0 < d) (d1 : d < 4294967296) : ∀ (i : Nat) (k : Nat) (qs : List Int) (r : Nat), i ≤ l.length → i < k → qs.length = l.length → DigB 4294967296 qs → r < d →
    ∃ q, q.length = l.length ∧ DigB 4294967296 q ∧ valB 4294967296 q = (r * 4294967296 ^ i + valB 4294967296 (l.take i)) / d + 4294967296 ^ i * valB 4294967296 (qs.drop i) ∧
      quo_Short.l0 k l (d : Int) qs (r : Int) ((i : Int) - 1) = some (trimL q, (((r * 4294967296 ^ i + valB 4294967296 (l.take i)) % d : Nat) : Int), 0)
  | 0, k, qs, r, _, hk, hq, hqd, hr => by
    obtain ⟨k, rfl⟩ : ∃ m, k = m + 1 := ⟨k - 1, by omega⟩
    refine ⟨qs, hq, hqd, ?_, ?_⟩
    · simp [valB, Nat.div_eq_of_lt hr]
    · simp only [quo_Short.l0]
      rw [if_neg (by omega), trim_f (okN_iff.2 ⟨by omega, hqd⟩)]
      simp only [Option.bind_some, List.take_zero, valB_nil, Nat.add_zero, Nat.pow_zero, Nat.mul_one, Nat.mod_eq_of_lt hr]
      congr 2
      have : (r : Int) % 4294967296 = (r : Int) := by omega
      rw [this]
  | i + 1, k, qs, r, hi, hk, hq, hqd, hr => by
    obtain ⟨k, rfl⟩ : ∃ m, k = m + 1 := ⟨k - 1, by omega⟩
    have hil : i < l.length := by omega
    obtain ⟨ha, ha2⟩ := rd_nat hd hil
    generalize hA : limbN l i = a at ha ha2
    obtain ⟨x, hx⟩ : ∃ x, r * 4294967296 + a = x := ⟨_, rfl⟩
    have hxd : x / d < 4294967296 := Nat.div_lt_of_lt_mul (by
      have : (r + 1) * 4294967296 ≤ d * 4294967296 := Nat.mul_le_mul_right _ hr
      rw [Nat.add_mul] at this; omega)
    have hxm : x % d < d := Nat.mod_lt _ d0
    have hy : ((x / d : Nat) : Int) % 4294967296 = ((x / d : Nat) : Int) := Int.emod_eq_of_lt (Int.natCast_nonneg _) (Int.ofNat_lt.2 hxd)
    have hset : DigB 4294967296 (qs.set i ((x / d : Nat) : Int)) := fun y hy => by
      rcases List.mem_or_eq_of_mem_set hy with hy | rfl
      · exact hqd y hy
      · exact ⟨Int.natCast_nonneg _, Int.ofNat_lt.2 hxd⟩
    obtain ⟨q, q1, q2, q3, q4⟩ := short_law l hl hd d d0 d1 i k (qs.set i ((x / d : Nat) : Int)) (x % d) (by omega) (by omega) (by rw [List.length_set, hq]) hset hxm
    have hdrop : valB 4294967296 ((qs.set i ((x / d : Nat) : Int)).drop i) = x / d + 4294967296 * valB 4294967296 (qs.drop (i + 1)) := by
      rw [List.drop_eq_getElem_cons (by rw [List.length_set]; omega), List.getElem_set_self, List.drop_set_of_lt (by omega), valB_cons, Int.toNat_natCast]
    have hR : r * 4294967296 ^ (i + 1) + valB 4294967296 (l.take (i + 1)) = d * (x / d * 4294967296 ^ i) + (x % d * 4294967296 ^ i + valB 4294967296 (l.take i)) := by
      rw [valB_take_succ l hil, hA, Nat.pow_succ]
      have e1 : x * 4294967296 ^ i = d * (x / d * 4294967296 ^ i) + x % d * 4294967296 ^ i := by
        conv => lhs; rw [← Nat.div_add_mod x d]
        rw [Nat.add_mul, Nat.mul_assoc]
      have e2 : x * 4294967296 ^ i = r * (4294967296 ^ i * 4294967296) + 4294967296 ^ i * a := by
        rw [← hx, Nat.add_mul, Nat.mul_assoc, Nat.mul_comm 4294967296 (4294967296 ^ i), Nat.mul_comm a]
      omega
    refine ⟨q, q1, q2, ?_, ?_⟩
    · rw [q3, hR, hdrop, Nat.mul_add_div d0, Nat.mul_add, Nat.pow_succ, Nat.mul_assoc, Nat.mul_comm (x / d)]
      omega
    · rw [hR, Nat.mul_add_mod]
      simp only [quo_Short.l0]
      rw [show ((i + 1 : Nat) : Int) - 1 = (i : Int) by omega, if_pos (by omega), if_pos (by omega), if_pos (by omega), ha, or_limb r a (by omega) ha2, hx, u64_id (show d < 18446744073709551616 by omega), if_neg (by omega), if_pos (by rw [hq]; omega),
        Int.tdiv_eq_ediv_of_nonneg (Int.natCast_nonneg _), Int.tmod_eq_emod_of_nonneg (Int.natCast_nonneg _), ← Int.natCast_ediv, ← Int.natCast_emod, u64_id (Nat.lt_trans hxd (by decide)), hy, Int.toNat_natCast, show wrap64 ((i : Int) - 1) = (i : Int) - 1 by unfold wrap64; omega]
      exact q4
theorem short_f {l : List Int} (h : okN l = true) {d : Nat} (d0 : 0 < d) (d1 : d < 4294967296) : quo_Short.f (l.length + 1) l (d : Int) = some (digB 4294967296 (valB 4294967296 l / d), ((valB 4294967296 l % d : Nat) : Int), 0) := by
  obtain ⟨hl, hd⟩ := okN_iff.1 h
  obtain ⟨q, q1, q2, q3, q4⟩ := short_law l hl hd d d0 d1 l.length (l.length + 1) (List.replicate l.length 0) 0 (Nat.le_refl _) (by omega) (by simp) (DigB.zeros _ (by decide) _) d0
  unfold quo_Short.f
  rw [if_neg (by omega), if_pos (by omega), if_pos (by omega)]
  simp only [Int.toNat_natCast]
  rw [show wrap64 ((l.length : Int) - 1) = (l.length : Int) - 1 by unfold wrap64; omega]
  rw [List.drop_eq_nil_of_le (by simp), valB_nil, Nat.mul_zero, Nat.add_zero, Nat.zero_mul, Nat.zero_add, List.take_length] at q3
  rw [Nat.zero_mul, Nat.zero_add, List.take_length] at q4
  rw [show ((0 : Nat) : Int) = 0 from rfl] at q4
  rw [q4, trimL_eq (by decide) q2, q3]
def quo_ShortC.f (l0 : List Int) (a1 : Int) : Option (List Int × Int × Int) := if okN l0 = true ∧ 0 ≤ a1 ∧ a1 < 4294967296 then (if a1 = 0 then some ([], 0, 17) else some (digB 4294967296 (valB 4294967296 l0 / a1.toNat), ((valB 4294967296 l0 % a1.toNat : Nat) : Int), 0)) else none
theorem quo_ShortC.calls (A0 : Option Addr) (c0 : Nat) (l0 : List Int) (a1 : Int) (r1 : List Int) (r2 : Int) (r3 : Int) (w : World) (hr0 : Kd.C (Kd.int .u32) w A0 l0.length l0) (hc0 : l0.length ≤ c0) (h : quo_ShortC.f l0 a1 = some (r1, r2, r3)) :
    Calls Tryz.prog 57 #[.slice A0 l0.length c0, .int .u32 a1] w fun e w' => ∃ v0_ : Value, e = .returned (.tuple #[v0_, .int .u32 r2, .int .i64 r3]) ∧ Kd.R (Kd.int .u32) 88 w' w.heap.size (fun _ => True) v0_ r1 ∧ Below w.heap.size w w' := by
  unfold quo_ShortC.f at h
  by_cases hg : okN l0 = true ∧ 0 ≤ a1 ∧ a1 < 4294967296
  · rw [if_pos hg] at h
    refine quo_Short.calls (l0.length + 1) A0 c0 l0 a1 r1 r2 r3 w hr0 hc0 ?_
    by_cases h0 : a1 = 0
    · rw [if_pos h0] at h
      unfold quo_Short.f
      rw [if_pos h0, h]
    · rw [if_neg h0] at h
      obtain ⟨d, rfl⟩ : ∃ d : Nat, a1 = d := ⟨a1.toNat, by omega⟩
      rw [Int.toNat_natCast] at h
      rw [short_f hg.1 (by omega) (by omega), h]
  · rw [if_neg hg] at h; cases h
theorem okN_digB {v n : Nat} (h : v < 4294967296 ^ n) (hn : n ≤ 1048576) : okN (digB 4294967296 v) = true :=
  okN_iff.2 ⟨Nat.le_trans (digB_len (by decide) h) hn, (digB_good _ (by decide) v).dig⟩
theorem add_f {x y n : Nat} (hx : x < 4294967296 ^ n) (hy : y < 4294967296 ^ n) (hn : n ≤ 1048576) : nat_Add.f (digB 4294967296 x) (digB 4294967296 y) = some (digB 4294967296 (x + y)) := by
  unfold nat_Add.f
  rw [if_pos ⟨okN_digB hx hn, okN_digB hy hn⟩, digB_val _ (by decide), digB_val _ (by decide)]
theorem mul_law {a b : List Int} (ha : DigB 4294967296 a) (hb : DigB 4294967296 b) (hl : a.length + b.length ≤ 1048575) : ∀ (d i k : Nat), i + d = b.length → d < k →
    nat_Mul.l0 k a (digB 4294967296 (valB 4294967296 a * valB 4294967296 (b.take i))) b (b.length : Int) (i : Int) = some (digB 4294967296 (valB 4294967296 a * valB 4294967296 b))
  | 0, i, k, hi, hk => by
    obtain ⟨k, rfl⟩ : ∃ m, k = m + 1 := ⟨k - 1, by omega⟩
    simp only [nat_Mul.l0]
    rw [if_neg (by omega), List.take_of_length_le (by omega)]
  | d + 1, i, k, hi, hk => by
    obtain ⟨k, rfl⟩ : ∃ m, k = m + 1 := ⟨k - 1, by omega⟩
    have hil : i < b.length := by omega
    obtain ⟨hm, hm2⟩ := rd_nat hb hil
    have ih := mul_law ha hb hl d (i + 1) k (by omega) (by omega)
    have hva := valB_lt 4294967296 a ha
    have hvt := valB_lt 4294967296 (b.take i) (hb.take i)
    rw [List.length_take, Nat.min_eq_left (by omega)] at hvt
    have hP := Nat.pow_pos (n := i) (show 0 < 4294967296 by decide)
    have hPa := Nat.pow_pos (n := a.length) (show 0 < 4294967296 by decide)
    generalize hM : limbN b i = m at hm hm2
    have h1 : valB 4294967296 a * valB 4294967296 (b.take i) < 4294967296 ^ (a.length + i + 1) := by
      rw [Nat.pow_succ, Nat.pow_add]
      have : valB 4294967296 a * valB 4294967296 (b.take i) < 4294967296 ^ a.length * 4294967296 ^ i := Nat.mul_lt_mul_of_lt_of_le hva (Nat.le_of_lt hvt) hP
      omega
    have h2 : 4294967296 ^ i * (m * valB 4294967296 a) < 4294967296 ^ (a.length + i + 1) := by
      rw [show a.length + i + 1 = i + (a.length + 1) by omega, Nat.pow_add 4294967296 i]
      refine Nat.mul_lt_mul_of_pos_left ?_ hP
      rw [Nat.pow_succ, Nat.mul_comm m]
      exact Nat.mul_lt_mul_of_lt_of_le hva (Nat.le_of_lt hm2) (by decide)
    simp only [nat_Mul.l0]
    rw [if_pos (by omega), if_pos (by omega), if_pos (by omega), hm]
    have hrow : nat_row.f a (m : Int) (i : Int) = some (digB 4294967296 (4294967296 ^ i * (m * valB 4294967296 a))) := by
      unfold nat_row.f
      rw [if_pos ⟨okN_iff.2 ⟨by omega, ha⟩, by omega, by omega⟩]
      simp only [Int.toNat_natCast]
    rw [hrow, Option.bind_some, add_f h1 h2 (by omega), Option.bind_some, show wrap64 ((i : Int) + 1) = ((i + 1 : Nat) : Int) by unfold wrap64; omega]
    rw [valB_take_succ b hil, hM] at ih
    rw [show valB 4294967296 a * valB 4294967296 (b.take i) + 4294967296 ^ i * (m * valB 4294967296 a) = valB 4294967296 a * (valB 4294967296 (b.take i) + 4294967296 ^ i * m) by
      rw [Nat.mul_add, Nat.mul_comm m, Nat.mul_left_comm]]
    exact ih
def nat_MulC.f (l0 l1 : List Int) : Option (List Int) := if okN l0 = true ∧ okN l1 = true ∧ l0.length + l1.length ≤ 1048575 then some (digB 4294967296 (valB 4294967296 l0 * valB 4294967296 l1)) else none
theorem nat_MulC.calls (A0 : Option Addr) (c0 : Nat) (l0 : List Int) (A1 : Option Addr) (c1 : Nat) (l1 : List Int) (r : List Int) (w : World) (hr0 : Kd.C (Kd.int .u32) w A0 l0.length l0) (hc0 : l0.length ≤ c0) (hr1 : Kd.C (Kd.int .u32) w A1 l1.length l1) (hc1 : l1.length ≤ c1) (h : nat_MulC.f l0 l1 = some r) :
    Calls Tryz.prog 76 #[.slice A0 l0.length c0, .slice A1 l1.length c1] w fun e w' => ∃ v0_ : Value, e = .returned (v0_) ∧ Kd.R (Kd.int .u32) 88 w' w.heap.size (fun _ => True) v0_ r ∧ Below w.heap.size w w' := by
  unfold nat_MulC.f at h
  by_cases hg : okN l0 = true ∧ okN l1 = true ∧ l0.length + l1.length ≤ 1048575
  · rw [if_pos hg] at h
    refine nat_Mul.calls (l1.length + 1) A0 c0 l0 A1 c1 l1 r w hr0 hc0 hr1 hc1 ?_
    have hm := mul_law (okN_iff.1 hg.1).2 (okN_iff.1 hg.2.1).2 hg.2.2 l1.length 0 (l1.length + 1) (by omega) (by omega)
    rw [List.take_zero, valB_nil, Nat.mul_zero, digB_zero _ (by decide)] at hm
    unfold nat_Mul.f
    rw [← h, ← hm]
    rfl
  · rw [if_neg hg] at h; cases h
theorem guess_loop {u v : List Int} {n : Nat} (hv : v.length = n) (hu : u.length = n + 1) (hn : 2 ≤ n) (hn2 : n ≤ 1048576) (du : DigB 4294967296 u) (dv : DigB 4294967296 v) (hv1 : 1 ≤ limbN v (n - 1)) {P ul vl : Nat} (hul : ul < P) (hvl : vl < P)
    (hU : ul + P * (limbN u (n - 2) + 4294967296 * (limbN u (n - 1) + 4294967296 * limbN u n)) < 4294967296 * (vl + P * (limbN v (n - 2) + 4294967296 * limbN v (n - 1)))) :
    ∀ (q r k : Nat), q * limbN v (n - 1) + r = limbN u n * 4294967296 + limbN u (n - 1) → r < 4294967296 → 2 * q + 2 < k →
      ul + P * (limbN u (n - 2) + 4294967296 * (limbN u (n - 1) + 4294967296 * limbN u n)) < (q + 1) * (vl + P * (limbN v (n - 2) + 4294967296 * limbN v (n - 1))) →
      ∃ g : Nat, quo_guess.l0 k u v (n : Int) (q : Int) (r : Int) = some (g : Int) ∧ GuessOk 4294967296 (ul + P * (limbN u (n - 2) + 4294967296 * (limbN u (n - 1) + 4294967296 * limbN u n))) (vl + P * (limbN v (n - 2) + 4294967296 * limbN v (n - 1))) g := by
  intro q
  induction q with
  | zero =>
    intro r k he hr hk hup
    obtain ⟨k, rfl⟩ : ∃ m, k = m + 2 := ⟨k - 2, by omega⟩
    obtain ⟨a1, a2⟩ := rd_nat dv (show n - 2 < v.length by omega)
    obtain ⟨b1, b2⟩ := rd_nat du (show n - 2 < u.length by omega)
    obtain ⟨_, b4⟩ := rd_nat du (show n - 1 < u.length by omega)
    refine ⟨0, ?_, guess_done hv1 a2 hvl b4 he hU hup (.inl ⟨by decide, by omega⟩)⟩
    have e2 : wrap64 ((n : Int) - 2) = ((n - 2 : Nat) : Int) := by unfold wrap64; omega
    simp only [quo_guess.l0]
    rw [if_neg (by omega), e2, if_pos (by omega), if_pos (by omega), if_pos (by omega), a1, b1, or_limb r _ hr b2]
    rw [show decide (IntKind.u64.wrap (((0 : Nat) : Int) * IntKind.u64.wrap ((limbN v (n - 2) : Nat) : Int)) > ((r * 4294967296 + limbN u (n - 2) : Nat) : Int)) = false from decide_eq_false (by
      rw [show ((0 : Nat) : Int) * IntKind.u64.wrap ((limbN v (n - 2) : Nat) : Int) = ((0 : Nat) : Int) by simp, u64_id (by decide)]; omega)]
    simp only [quo_guess.j1]
    rfl
  | succ q ih =>
    intro r k he hr hk hup
    obtain ⟨k, rfl⟩ : ∃ m, k = m + 2 := ⟨k - 2, by omega⟩
    obtain ⟨a1, a2⟩ := rd_nat dv (show n - 2 < v.length by omega)
    obtain ⟨a3, a4⟩ := rd_nat dv (show n - 1 < v.length by omega)
    obtain ⟨b1, b2⟩ := rd_nat du (show n - 2 < u.length by omega)
    obtain ⟨_, b4⟩ := rd_nat du (show n - 1 < u.length by omega)
    obtain ⟨_, b6⟩ := rd_nat du (show n < u.length by omega)
    have e1 : wrap64 ((n : Int) - 1) = ((n - 1 : Nat) : Int) := by unfold wrap64; omega
    have e2 : wrap64 ((n : Int) - 2) = ((n - 2 : Nat) : Int) := by unfold wrap64; omega
    have hq64 : q + 1 < 18446744073709551616 := by
      have : (q + 1) * 1 ≤ (q + 1) * limbN v (n - 1) := Nat.mul_le_mul_left _ hv1
      omega
    have low : ul + P * (limbN u (n - 2) + 4294967296 * (limbN u (n - 1) + 4294967296 * limbN u n)) < (q + 1) * (vl + P * (limbN v (n - 2) + 4294967296 * limbN v (n - 1))) →
        ∃ g : Nat, quo_guess.j1 (k + 1) u v (n : Int) ((q + 1 : Nat) : Int) (r : Int) true = some (g : Int) ∧ GuessOk 4294967296 (ul + P * (limbN u (n - 2) + 4294967296 * (limbN u (n - 1) + 4294967296 * limbN u n))) (vl + P * (limbN v (n - 2) + 4294967296 * limbN v (n - 1))) g := fun hlo => by
      have he2 : q * limbN v (n - 1) + (r + limbN v (n - 1)) = limbN u n * 4294967296 + limbN u (n - 1) := by rw [Nat.add_mul, Nat.one_mul] at he; omega
      simp only [quo_guess.j1]
      rw [if_pos trivial, e1, if_pos (by omega), if_pos (by omega), a3, u64_id (by omega), show (r : Int) + ((limbN v (n - 1) : Nat) : Int) = ((r + limbN v (n - 1) : Nat) : Int) by omega, u64_id (by omega), show ((q + 1 : Nat) : Int) - 1 = (q : Int) by omega, u64_id (by omega)]
      by_cases hB : 4294967296 ≤ r + limbN v (n - 1)
      · rw [if_pos (by omega)]
        exact ⟨q, rfl, guess_done hv1 a2 hvl b4 he2 hU hlo (.inr hB)⟩
      · rw [if_neg (by omega)]
        exact ih (r + limbN v (n - 1)) k he2 (by omega) (by omega) hlo
    simp only [quo_guess.l0]
    by_cases hq : 4294967296 ≤ q + 1
    · rw [if_pos (by omega)]
      refine low ?_
      have : 4294967296 * (vl + P * (limbN v (n - 2) + 4294967296 * limbN v (n - 1))) ≤ (q + 1) * (vl + P * (limbN v (n - 2) + 4294967296 * limbN v (n - 1))) := Nat.mul_le_mul_right _ hq
      omega
    · have hprod : (q + 1) * limbN v (n - 2) ≤ 4294967295 * 4294967295 := Nat.mul_le_mul (by omega) (by omega)
      rw [if_neg (by omega), e2, if_pos (by omega), if_pos (by omega), if_pos (by omega), a1, b1, or_limb r _ hr b2, u64_id (show limbN v (n - 2) < _ by omega), ← Int.natCast_mul, u64_id (by omega)]
      by_cases hc : r * 4294967296 + limbN u (n - 2) < (q + 1) * limbN v (n - 2)
      · rw [decide_eq_true (Int.ofNat_lt.2 hc)]
        exact low (guess_high he hc hul)
      · rw [decide_eq_false (fun h => hc (Int.ofNat_lt.1 h))]
        refine ⟨q + 1, ?_, guess_done hv1 a2 hvl b4 he hU hup (.inl ⟨by omega, by omega⟩)⟩
        simp only [quo_guess.j1]
        rfl
theorem guess_f {u v : List Int} {n : Nat} (hv : v.length = n) (hu : u.length = n + 1) (hn : 2 ≤ n) (hn2 : n ≤ 1048576) (du : DigB 4294967296 u) (dv : DigB 4294967296 v) (hv1 : 1 ≤ limbN v (n - 1)) (hU : valB 4294967296 u < 4294967296 * valB 4294967296 v) :
    ∃ (k g : Nat), quo_guess.f k u v = some (g : Int) ∧ GuessOk 4294967296 (valB 4294967296 u) (valB 4294967296 v) g := by
  have eu : valB 4294967296 u = valB 4294967296 (u.take (n - 2)) + 4294967296 ^ (n - 2) * (limbN u (n - 2) + 4294967296 * (limbN u (n - 1) + 4294967296 * limbN u n)) := by
    have h0 := valB_take_succ (B := 4294967296) u (show n < u.length by omega)
    have h1 := valB_take_succ (B := 4294967296) u (show n - 1 < u.length by omega)
    have h2 := valB_take_succ (B := 4294967296) u (show n - 2 < u.length by omega)
    rw [show n - 1 + 1 = n by omega] at h1
    rw [show n - 2 + 1 = n - 1 by omega] at h2
    rw [List.take_of_length_le (by omega)] at h0
    rw [h0, h1, h2, Nat.mul_add, Nat.mul_add, show (4294967296 : Nat) ^ n = 4294967296 ^ (n - 2) * (4294967296 * 4294967296) by rw [show n = n - 2 + 1 + 1 by omega]; simp [Nat.pow_succ, Nat.mul_assoc], show (4294967296 : Nat) ^ (n - 1) = 4294967296 ^ (n - 2) * 4294967296 by rw [← Nat.pow_succ]; congr 1; omega]
    simp only [Nat.mul_add, Nat.mul_assoc]
    omega
  have ev : valB 4294967296 v = valB 4294967296 (v.take (n - 2)) + 4294967296 ^ (n - 2) * (limbN v (n - 2) + 4294967296 * limbN v (n - 1)) := by
    have h1 := valB_take_succ (B := 4294967296) v (show n - 1 < v.length by omega)
    have h2 := valB_take_succ (B := 4294967296) v (show n - 2 < v.length by omega)
    rw [show n - 1 + 1 = n by omega, List.take_of_length_le (by omega)] at h1
    rw [show n - 2 + 1 = n - 1 by omega] at h2
    rw [h1, h2, Nat.mul_add, show (4294967296 : Nat) ^ (n - 1) = 4294967296 ^ (n - 2) * 4294967296 by rw [← Nat.pow_succ]; congr 1; omega]
    simp only [Nat.mul_assoc]
    omega
  have hul := valB_lt 4294967296 (u.take (n - 2)) (du.take _)
  have hvl := valB_lt 4294967296 (v.take (n - 2)) (dv.take _)
  rw [List.length_take, Nat.min_eq_left (by omega)] at hul hvl
  obtain ⟨a3, a4⟩ := rd_nat dv (show n - 1 < v.length by omega)
  obtain ⟨a1, a2⟩ := rd_nat dv (show n - 2 < v.length by omega)
  obtain ⟨b3, b4⟩ := rd_nat du (show n - 1 < u.length by omega)
  obtain ⟨b5, b6⟩ := rd_nat du (show n < u.length by omega)
  obtain ⟨_, b2⟩ := rd_nat du (show n - 2 < u.length by omega)
  rw [eu, ev] at hU ⊢
  obtain ⟨t, ht⟩ : ∃ t, limbN u n * 4294967296 + limbN u (n - 1) = t := ⟨_, rfl⟩
  have hup := guess_first (B := 4294967296) (v1 := limbN v (n - 1)) (v2 := limbN v (n - 2)) (t0 := limbN u n) (t1 := limbN u (n - 1)) (t2 := limbN u (n - 2)) (P := 4294967296 ^ (n - 2)) (vl := valB 4294967296 (v.take (n - 2))) (ul := valB 4294967296 (u.take (n - 2))) hv1 hul b2
  rw [ht] at hup
  have hdm := Nat.div_add_mod t (limbN v (n - 1))
  have hml := Nat.mod_lt t hv1
  have hdl : t / limbN v (n - 1) ≤ t := Nat.div_le_self _ _
  obtain ⟨g, hg, hok⟩ := guess_loop hv hu hn hn2 du dv hv1 hul hvl hU (t / limbN v (n - 1)) (t % limbN v (n - 1)) (2 * (t / limbN v (n - 1)) + 3) (by rw [ht, Nat.mul_comm]; exact hdm) (by omega) (by omega) hup
  refine ⟨2 * (t / limbN v (n - 1)) + 3, g, ?_, hok⟩
  have e1 : wrap64 ((n : Int) - 1) = ((n - 1 : Nat) : Int) := by unfold wrap64; omega
  unfold quo_guess.f
  rw [hv, e1, if_pos (by omega), if_pos (by omega), if_pos (by omega), if_pos (by omega), if_pos (by omega), a3, b3, b5, u64_id (show limbN v (n - 1) < _ by omega), if_neg (by omega), u64_id (show limbN u n < _ by omega), or_limb _ _ b6 b4, ht,
    Int.tdiv_eq_ediv_of_nonneg (Int.natCast_nonneg _), Int.tmod_eq_emod_of_nonneg (Int.natCast_nonneg _), ← Int.natCast_ediv, ← Int.natCast_emod, u64_id (by omega)]
  exact hg
end Go.Proofs.YtibaoacjjcgjlaaGreatDoor.Print

namespace Go.Proofs.YtibaoacjjcgjlaaGreatDoor.Print
open Go.RowKit Go.Proofs.YtibaoacjjcgjlaaGreatDoorW.PrintWords Go.Proofs.YtibaoacjjcgjlaaGreatDoorW.PrintLast Go.Proofs.YtibaoacjjcgjlaaGreatDoorW.PrintMore Go.Proofs.YtibaoacjjcgjlaaGreatDoor.Base
set_option linter.unusedVariables false
set_option linter.unusedSimpArgs false
theorem bv_and (a b : Int) : bits .and .u32 a b = ((BitVec.ofInt 32 a &&& BitVec.ofInt 32 b).toNat : Int) := by
  show IntKind.u32.wrap ((BitVec.ofInt 32 a &&& BitVec.ofInt 32 b).toNat : Int) = _
  have := (BitVec.ofInt 32 a &&& BitVec.ofInt 32 b).isLt
  rw [IntKind.wrap_u32']; omega
theorem bv_or (a b : Int) : bits .or .u32 a b = ((BitVec.ofInt 32 a ||| BitVec.ofInt 32 b).toNat : Int) := by
  show IntKind.u32.wrap ((BitVec.ofInt 32 a ||| BitVec.ofInt 32 b).toNat : Int) = _
  have := (BitVec.ofInt 32 a ||| BitVec.ofInt 32 b).isLt
  rw [IntKind.wrap_u32']; omega
theorem bv_xor (a b : Int) : bits .xor .u32 a b = ((BitVec.ofInt 32 a ^^^ BitVec.ofInt 32 b).toNat : Int) := by
  show IntKind.u32.wrap ((BitVec.ofInt 32 a ^^^ BitVec.ofInt 32 b).toNat : Int) = _
  have := (BitVec.ofInt 32 a ^^^ BitVec.ofInt 32 b).isLt
  rw [IntKind.wrap_u32']; omega
theorem bv_not (v : BitVec 32) : BitVec.ofInt 32 IntKind.u32.max ^^^ v = ~~~v := by
  rw [show BitVec.ofInt 32 IntKind.u32.max = BitVec.allOnes 32 by decide, BitVec.allOnes_xor]
theorem bv_back (v : BitVec 32) : BitVec.ofInt 32 (v.toNat : Int) = v := by rw [BitVec.ofInt_natCast, BitVec.ofNat_toNat, BitVec.setWidth_eq]
theorem bits_borrow (x y d bo : Nat) (hk : (((~~~(BitVec.ofNat 32 x) &&& BitVec.ofNat 32 y) ||| (~~~(BitVec.ofNat 32 x ^^^ BitVec.ofNat 32 y) &&& BitVec.ofNat 32 d)).toNat / 2147483648) = bo) :
    bits .or .u32 (bits .and .u32 (bits .xor .u32 IntKind.u32.max (x : Int)) (y : Int)) (bits .and .u32 (bits .xor .u32 IntKind.u32.max (bits .xor .u32 (x : Int) (y : Int))) (d : Int)) / 2147483648 = (bo : Int) := by
  have e1 : bits .xor .u32 IntKind.u32.max (x : Int) = ((~~~(BitVec.ofNat 32 x)).toNat : Int) := by rw [bv_xor, bv_not, BitVec.ofInt_natCast]
  have e2 : bits .xor .u32 (x : Int) (y : Int) = ((BitVec.ofNat 32 x ^^^ BitVec.ofNat 32 y).toNat : Int) := by rw [bv_xor, BitVec.ofInt_natCast, BitVec.ofInt_natCast]
  have e3 : bits .xor .u32 IntKind.u32.max ((BitVec.ofNat 32 x ^^^ BitVec.ofNat 32 y).toNat : Int) = ((~~~(BitVec.ofNat 32 x ^^^ BitVec.ofNat 32 y)).toNat : Int) := by rw [bv_xor, bv_not, bv_back]
  rw [e1, e2, e3]
  generalize ~~~(BitVec.ofNat 32 x) = nx at hk ⊢
  generalize ~~~(BitVec.ofNat 32 x ^^^ BitVec.ofNat 32 y) = nxy at hk ⊢
  rw [bv_and, bv_and, bv_back, bv_back, BitVec.ofInt_natCast, BitVec.ofInt_natCast]
  generalize (nx &&& BitVec.ofNat 32 y) = a at hk ⊢
  generalize (nxy &&& BitVec.ofNat 32 d) = c at hk ⊢
  rw [bv_or, bv_back, bv_back]
  omega
theorem borrow_is {x y b : Nat} (hx : x < 4294967296) (hy : y < 4294967296) (hb : b ≤ 1) :
    bits .or .u32 (bits .and .u32 (bits .xor .u32 IntKind.u32.max (x : Int)) (y : Int)) (bits .and .u32 (bits .xor .u32 IntKind.u32.max (bits .xor .u32 (x : Int) (y : Int))) (((x : Int) - (y : Int) - (b : Int)) % 4294967296)) / 2147483648 = ((if x < y + b then 1 else 0 : Nat) : Int) := by
  have hd : ((x : Int) - (y : Int) - (b : Int)) % 4294967296 = (((x + 4294967296 - y + 4294967296 - b) % 4294967296 : Nat) : Int) := by omega
  have hk := borrow_bits hx hy hb
  obtain ⟨d, hdd⟩ : ∃ d, (x + 4294967296 - y + 4294967296 - b) % 4294967296 = d := ⟨_, rfl⟩
  obtain ⟨bo, hbo⟩ : ∃ bo : Nat, (if x < y + b then 1 else 0) = bo := ⟨_, rfl⟩
  rw [hdd, hbo] at hk
  rw [hdd] at hd
  rw [hd, hbo]
  clear hdd hbo hd hx hy hb
  exact bits_borrow x y d bo hk
set_option maxRecDepth 100000 in
set_option maxHeartbeats 2000000 in
theorem sub32_calls (x y b : Nat) (hx : x < 4294967296) (hy : y < 4294967296) (hb : b ≤ 1) (w : World) :
    Calls Tryz.prog 156 #[.int .u32 (x : Int), .int .u32 (y : Int), .int .u32 (b : Int)] w fun e w' => e = .returned (.tuple #[.int .u32 (((x + 4294967296 - y - b) % 4294967296 : Nat) : Int), .int .u32 ((if x < y + b then 1 else 0 : Nat) : Int)]) ∧ w' = w := by
  have hsg : IntKind.u32.signed = false := rfl
  have hk := borrow_is hx hy hb
  have hd : (((x + 4294967296 - y - b) % 4294967296 : Nat) : Int) = (((x : Int) - (y : Int)) % 4294967296 - (b : Int)) % 4294967296 := by omega
  generalize ((if x < y + b then 1 else 0 : Nat) : Int) = bo at hk ⊢
  rw [hd]
  have HK := Aside0.mk hk
  clear hk hd
  go_enter Tryz.func156, Tryz.ntmps156
  go_wp2
  go_ret2
  exact ⟨by rw [← HK.out]; rfl, rfl⟩
def UAt (W : World) (B : Nat) (us : List Int) : Prop := W.heap[B]? = some (.cells (us.map (Value.int .u32)).toArray 88 (0, 0))
theorem UAt.cell {W : World} {B : Nat} {us : List Int} (h : UAt W B us) (i : Nat) (hi : i < us.length) : W.cell? ⟨B, i, none⟩ = some (.int .u32 (us[i]'hi)) ∧ W.frozen? ⟨B, i, none⟩ = false := by
  have h' : W.heap[B]? = _ := h
  refine ⟨?_, kF9 h' i⟩
  rw [kC9 h' i]
  simp [hi]
theorem UAt.put {W : World} {B : Nat} {us : List Int} (h : UAt W B us) (i : Nat) (x : Int) : UAt (W.setCell ⟨B, i, none⟩ (.int .u32 x)) B (us.set i x) := by
  have h' : W.heap[B]? = _ := h
  obtain ⟨hlt, hk⟩ := Array.getElem?_eq_some_iff.1 h'
  show (W.heap.modify B _)[B]? = _
  rw [Array.getElem?_eq_getElem (by rw [Array.size_modify]; exact hlt), Array.getElem_modify_self, hk]
  simp [List.map_set]
theorem UAt.lt {W : World} {B : Nat} {us : List Int} (h : UAt W B us) : B < W.heap.size := blk_lt (show W.heap[B]? = _ from h)
theorem grownBy_refl (W : World) (row : Option Nat) : W.grownBy W row := ⟨rfl, rfl, rfl, Nat.le_refl _, fun _ _ _ => rfl⟩
theorem grownBy_put {w W : World} {B : Nat} (h : w.grownBy W (some B)) (i : Nat) (v : Value) : w.grownBy (W.setCell ⟨B, i, none⟩ v) (some B) :=
  ⟨h.os, h.tape, h.output, by have := h.size; simpa [World.setCell] using this, fun k hk hne => (Below.heap_setCell W ⟨B, i, none⟩ v k (fun e => hne (by rw [e]))).trans (h.block k hk hne)⟩
def takeP (q : Nat) (us vs : List Int) (j i : Nat) : List Int × Nat × Nat := takeB 4294967296 q ((us.drop j).take i) (vs.take i) 0 0
theorem takeP_zero (q : Nat) (us vs : List Int) (j : Nat) : takeP q us vs j 0 = ([], 0, 0) := by simp [takeP, Base.takeB]
theorem takeP_succ (q : Nat) (us vs : List Int) (j i : Nat) (hi : i < vs.length) (hu : j + i < us.length) :
    takeP q us vs j (i + 1) = ((takeP q us vs j i).1 ++ [(((us[j + i].toNat + 4294967296 - (q * vs[i].toNat + (takeP q us vs j i).2.1) % 4294967296 - (takeP q us vs j i).2.2) % 4294967296 : Nat) : Int)], (q * vs[i].toNat + (takeP q us vs j i).2.1) / 4294967296, if us[j + i].toNat < (q * vs[i].toNat + (takeP q us vs j i).2.1) % 4294967296 + (takeP q us vs j i).2.2 then 1 else 0) := by
  unfold takeP
  rw [List.take_succ_eq_append_getElem (l := us.drop j) (by rw [List.length_drop]; omega), List.take_succ_eq_append_getElem hi, takeB_snoc _ _ _ _ _ _ _ _ (by simp; omega), List.getElem_drop]
theorem takeP_spec {q : Nat} (hq : q < 4294967296) {us vs : List Int} (hu : DigB 4294967296 us) (hv : DigB 4294967296 vs) (j i : Nat) (hi : i ≤ vs.length) (hj : j + vs.length < us.length) :
    DigB 4294967296 (takeP q us vs j i).1 ∧ (takeP q us vs j i).2.1 < 4294967296 ∧ (takeP q us vs j i).2.2 ≤ 1 ∧ (takeP q us vs j i).1.length = i := by
  have hl : ((us.drop j).take i).length = (vs.take i).length := by simp; omega
  obtain ⟨_, h2, h3, h4, h5⟩ := takeB_spec 4294967296 q hq _ _ 0 0 hl ((hu.drop j).take i) (hv.take i) (by decide) (by decide)
  exact ⟨h2, h3, h4, by unfold takeP; rw [h5]; simp; omega⟩
def midU (us r : List Int) (j i : Nat) : List Int := us.take j ++ r ++ us.drop (j + i)
theorem midU_len {us r : List Int} {j i : Nat} (h : r.length = i) (hj : j + i ≤ us.length) : (midU us r j i).length = us.length := by
  unfold midU; simp; omega
theorem midU_get {us r : List Int} {j i : Nat} (h : r.length = i) (hj : j + i < us.length) : (midU us r j i)[j + i]'(by rw [midU_len h (by omega)]; exact hj) = us[j + i] := by
  unfold midU
  rw [List.getElem_append_right (by simp; omega)]
  simp only [List.length_append, List.length_take, h, Nat.min_eq_left (show j ≤ us.length by omega), Nat.sub_self, List.getElem_drop, Nat.add_zero]
theorem midU_set {us r : List Int} {j i : Nat} (h : r.length = i) (hj : j + i < us.length) (d : Int) : (midU us r j i).set (j + i) d = midU us (r ++ [d]) j (i + 1) := by
  unfold midU
  rw [List.set_append_right _ _ (by simp; omega), List.drop_eq_getElem_cons hj]
  simp only [List.length_append, List.length_take, h, Nat.min_eq_left (show j ≤ us.length by omega), Nat.sub_self, List.set_cons_zero]
  simp [Nat.add_assoc]
set_option maxRecDepth 100000 in
set_option maxHeartbeats 16000000 in
theorem take_calls (B j cu n : Nat) (us : List Int) (A : Option Addr) (cv : Nat) (vs : List Int) (q : Nat) (w : World) (hn : vs.length = n) (hU : UAt w B us) (hu : DigB 4294967296 us) (hv : DigB 4294967296 vs) (hq : q < 4294967296) (hj : j + n < us.length) (hcu : n + 1 ≤ cu) (hvl : n ≤ cv) (hlen : us.length ≤ 1073741824)
    (hV : ∀ W, w.grownBy W (some B) → Kd.C (Kd.int .u32) W A n vs) (x : Nat) (hx : us[j + n] = (x : Int)) :
    Calls Tryz.prog 142 #[.slice (some ⟨B, j, none⟩) (n + 1) cu, .slice A n cv, .int .u64 (q : Int)] w fun e w' =>
      e = .returned (.bool (decide (x < (takeP q us vs j n).2.1 + (takeP q us vs j n).2.2))) ∧
      UAt w' B (midU us ((takeP q us vs j n).1 ++ [(((x + 4294967296 - (takeP q us vs j n).2.1 - (takeP q us vs j n).2.2) % 4294967296 : Nat) : Int)]) j (n + 1)) ∧ w.grownBy w' (some B) := by
  have HN := Aside0.mk hn
  have HU := Aside0.mk hU
  have HV := Aside0.mk hV
  have HX := Aside0.mk hx
  clear hU hV hx
  go_enter Tryz.func142, Tryz.ntmps142
  go_wp2
  go_loopw [7, 8, 14] (fun v7 v8 v14 wr => ∃ (i : Nat), i ≤ n ∧ v14 = .int .i64 (i : Int) ∧ v7 = .int .u64 ((takeP q us vs j i).2.1 : Int) ∧ v8 = .int .u32 ((takeP q us vs j i).2.2 : Int) ∧ Aside0 (UAt wr B (midU us (takeP q us vs j i).1 j i)) ∧ Aside0 (w.grownBy wr (some B))) (fun _ _ v14 _ => n - (intOf v14).toNat)
  case atStart => exact ⟨0, Nat.zero_le _, rfl, by rw [takeP_zero]; rfl, by rw [takeP_zero]; rfl, ⟨by rw [takeP_zero]; show UAt w B (midU us [] j 0); rw [show midU us [] j 0 = us by simp [midU]]; exact HU.out⟩, ⟨grownBy_refl _ _⟩⟩
  case round =>
    obtain ⟨i, hi, rfl, rfl, rfl, HR, HG⟩ := hrel
    obtain ⟨s1, s2, s3, s4⟩ := takeP_spec hq hu hv j i (by rw [HN.out]; exact hi) (by rw [HN.out]; exact hj)
    obtain ⟨c, hc⟩ : ∃ c, (takeP q us vs j i).2.1 = c := ⟨_, rfl⟩
    obtain ⟨b, hb⟩ : ∃ b, (takeP q us vs j i).2.2 = b := ⟨_, rfl⟩
    obtain ⟨r, hr⟩ : ∃ r, (takeP q us vs j i).1 = r := ⟨_, rfl⟩
    rw [hc] at s2
    rw [hb] at s3
    rw [hr] at s4
    rw [hr] at HR
    have hlm := midU_len (us := us) (r := r) (j := j) (i := i) s4 (by omega)
    have hg := midU_get (us := us) (r := r) (j := j) (i := i) s4 (by omega)
    obtain ⟨k1, k2⟩ := HR.out.cell (j + i) (by rw [hlm]; omega)
    rw [hg] at k1
    have hud := hu us[j + i] (List.getElem_mem _)
    obtain ⟨a, ha⟩ : ∃ a : Nat, us[j + i] = (a : Int) := ⟨us[j + i].toNat, by omega⟩
    rw [ha] at k1 hud
    rw [hc, hb]
    by_cases hlt : i < n
    · have hd : decide ((i : Int) < (n : Int)) = true := decide_eq_true (by omega)
      obtain ⟨ad, hA, hcell⟩ := Kd.at_int (HN.out ▸ HV.out wr HG.out : Kd.C (Kd.int .u32) wr A vs.length vs) (i : Int) (by omega) (by rw [HN.out]; omega)
      have hvi : i < vs.length := by rw [HN.out]; exact hlt
      have hvd := hv vs[i] (List.getElem_mem _)
      obtain ⟨y, hy⟩ : ∃ y : Nat, vs[i] = (y : Int) := ⟨vs[i].toNat, by omega⟩
      have hrd : rd vs (i : Int) = (y : Int) := by rw [← hy]; simp [rd, hvi]
      rw [hrd, Int.toNat_natCast] at hcell
      rw [hy] at hvd
      have hsucc := takeP_succ q us vs j i hvi (by omega)
      simp only [ha, hy, Int.toNat_natCast, hr, hc, hb] at hsucc
      obtain ⟨z, hz⟩ : ∃ z, q * y = z := ⟨_, rfl⟩
      have hz2 : z ≤ 4294967295 * 4294967295 := by rw [← hz]; exact Nat.mul_le_mul (by omega) (by omega)
      rw [hz] at hsucc
      obtain ⟨p, hp⟩ : ∃ p, z + c = p := ⟨_, rfl⟩
      rw [hp] at hsucc
      have e1 : IntKind.u64.wrap (y : Int) = (y : Int) := by rw [IntKind.wrap_u64]; omega
      have e2 : IntKind.u64.wrap ((q : Int) * (y : Int)) = (z : Int) := by rw [IntKind.wrap_u64, ← hz, Int.natCast_mul, Int.emod_eq_of_lt (by rw [← Int.natCast_mul, hz]; omega) (by rw [← Int.natCast_mul, hz]; omega)]
      have e3 : IntKind.u64.wrap ((z : Int) + (c : Int)) = (p : Int) := by rw [IntKind.wrap_u64]; omega
      have e4 : IntKind.u32.wrap (p : Int) = ((p % 4294967296 : Nat) : Int) := by rw [IntKind.wrap_u32']; omega
      have SUB := Aside0.mk (sub32_calls a (p % 4294967296) b (by omega) (Nat.mod_lt _ (by decide)) s3)
      have hset := midU_set (us := us) (r := r) (j := j) (i := i) s4 (by omega)
      have HS := Aside0.mk hsucc
      have SET := Aside0.mk hset
      cases hA
      clear hsucc hset hg hz hp
      go_wp2_with (go_at_call 156; refine (SUB.out _).mono ?_; rintro e w' ⟨rfl, rfl⟩)
      go_roundw
      case rel => exact ⟨i + 1, by omega, by first | rfl | (rw [show wrap64 ((i : Int) + 1) = (i : Int) + 1 from (by unfold wrap64; omega)]; rfl), by rw [HS.out]; rfl, by rw [HS.out], ⟨by rw [HS.out, ← SET.out]; exact HR.out.put _ _⟩, ⟨grownBy_put HG.out _ _⟩⟩
      case measure => simp [intOf]; omega
    · obtain rfl : i = n := by omega
      have hd : decide ((i : Int) < (i : Int)) = false := decide_eq_false (by omega)
      obtain rfl : a = x := by have := HX.out; omega
      have e4 : IntKind.u32.wrap (c : Int) = (c : Int) := by rw [IntKind.wrap_u32']; omega
      have SUB := Aside0.mk (sub32_calls a c b (by omega) s2 s3)
      have hset := midU_set (us := us) (r := r) (j := j) (i := i) s4 (by omega)
      have SET := Aside0.mk hset
      have p1 : (0 : Int) ≤ (i : Int) := by omega
      have p2 : (i : Int) < ((i + 1 : Nat) : Int) := by omega
      have p3 : (i : Int) < (i : Int) + 1 := by omega
      clear hset hg
      go_wp2_with (go_at_call 156; refine (SUB.out _).mono ?_; rintro e w' ⟨rfl, rfl⟩)
      all_goals
        go_ret
        refine ⟨rfl, ?_, grownBy_put HG.out _ _⟩
        have h := HR.out.put (j + i) (((a + 4294967296 - c - b) % 4294967296 : Nat) : Int)
        rw [SET.out] at h
        simpa using h
set_option maxRecDepth 100000 in
set_option maxHeartbeats 2000000 in
theorem add32_calls (x y b : Nat) (hx : x < 4294967296) (hy : y < 4294967296) (hb : b ≤ 1) (w : World) :
    Calls Tryz.prog 157 #[.int .u32 (x : Int), .int .u32 (y : Int), .int .u32 (b : Int)] w fun e w' => e = .returned (.tuple #[.int .u32 (((x + y + b) % 4294967296 : Nat) : Int), .int .u32 (((x + y + b) / 4294967296 : Nat) : Int)]) ∧ w' = w := by
  have e1 : IntKind.u64.wrap (x : Int) = (x : Int) := by rw [IntKind.wrap_u64]; omega
  have e2 : IntKind.u64.wrap (y : Int) = (y : Int) := by rw [IntKind.wrap_u64]; omega
  have e3 : IntKind.u64.wrap (b : Int) = (b : Int) := by rw [IntKind.wrap_u64]; omega
  obtain ⟨z, hz⟩ : ∃ z, x + y = z := ⟨_, rfl⟩
  obtain ⟨s, hs⟩ : ∃ s, z + b = s := ⟨_, rfl⟩
  have e4 : IntKind.u64.wrap ((x : Int) + (y : Int)) = (z : Int) := by rw [IntKind.wrap_u64]; omega
  have e5 : IntKind.u64.wrap ((z : Int) + (b : Int)) = (s : Int) := by rw [IntKind.wrap_u64]; omega
  have e6 : IntKind.u32.wrap (s : Int) = ((s % 4294967296 : Nat) : Int) := by rw [IntKind.wrap_u32']; omega
  have e7 : IntKind.u32.wrap ((s : Int) / 4294967296) = ((s / 4294967296 : Nat) : Int) := by rw [IntKind.wrap_u32']; omega
  rw [hz, hs]
  go_enter Tryz.func157, Tryz.ntmps157
  go_wp2
  go_ret2
  exact ⟨rfl, rfl⟩
def backP (us vs : List Int) (j i : Nat) : List Int × Nat := backB 4294967296 ((us.drop j).take i) (vs.take i) 0
theorem backP_zero (us vs : List Int) (j : Nat) : backP us vs j 0 = ([], 0) := by simp [backP, backB]
theorem backP_succ (us vs : List Int) (j i : Nat) (hi : i < vs.length) (hu : j + i < us.length) :
    backP us vs j (i + 1) = ((backP us vs j i).1 ++ [(((us[j + i].toNat + vs[i].toNat + (backP us vs j i).2) % 4294967296 : Nat) : Int)], (us[j + i].toNat + vs[i].toNat + (backP us vs j i).2) / 4294967296) := by
  unfold backP
  rw [List.take_succ_eq_append_getElem (l := us.drop j) (by rw [List.length_drop]; omega), List.take_succ_eq_append_getElem hi, backB_snoc _ _ _ _ _ _ (by simp; omega), List.getElem_drop]
theorem backP_spec {us vs : List Int} (hu : DigB 4294967296 us) (hv : DigB 4294967296 vs) (j i : Nat) (hi : i ≤ vs.length) (hj : j + vs.length < us.length) :
    DigB 4294967296 (backP us vs j i).1 ∧ (backP us vs j i).2 ≤ 1 ∧ (backP us vs j i).1.length = i := by
  have hl : ((us.drop j).take i).length = (vs.take i).length := by simp; omega
  obtain ⟨_, h2, h3, h4⟩ := backB_spec 4294967296 _ _ 0 hl ((hu.drop j).take i) (hv.take i) (by decide)
  exact ⟨h2, h3, by unfold backP; rw [h4]; simp; omega⟩
set_option maxRecDepth 100000 in
set_option maxHeartbeats 16000000 in
theorem back_calls (B j cu n : Nat) (us : List Int) (A : Option Addr) (cv : Nat) (vs : List Int) (w : World) (hn : vs.length = n) (hU : UAt w B us) (hu : DigB 4294967296 us) (hv : DigB 4294967296 vs) (hj : j + n < us.length) (hcu : n + 1 ≤ cu) (hvl : n ≤ cv) (hlen : us.length ≤ 1073741824)
    (hV : ∀ W, w.grownBy W (some B) → Kd.C (Kd.int .u32) W A n vs) (x : Nat) (hx : us[j + n] = (x : Int)) :
    Calls Tryz.prog 143 #[.slice (some ⟨B, j, none⟩) (n + 1) cu, .slice A n cv] w fun e w' =>
      e = .returned (.tuple #[]) ∧ UAt w' B (midU us ((backP us vs j n).1 ++ [(((x + (backP us vs j n).2) % 4294967296 : Nat) : Int)]) j (n + 1)) ∧ w.grownBy w' (some B) := by
  have HN := Aside0.mk hn
  have HU := Aside0.mk hU
  have HV := Aside0.mk hV
  have HX := Aside0.mk hx
  clear hU hV hx
  go_enter Tryz.func143, Tryz.ntmps143
  go_wp2
  go_loopw [4, 9] (fun v4 v9 wr => ∃ (i : Nat), i ≤ n ∧ v9 = .int .i64 (i : Int) ∧ v4 = .int .u32 ((backP us vs j i).2 : Int) ∧ Aside0 (UAt wr B (midU us (backP us vs j i).1 j i)) ∧ Aside0 (w.grownBy wr (some B))) (fun _ v9 _ => n - (intOf v9).toNat)
  case atStart => exact ⟨0, Nat.zero_le _, rfl, by rw [backP_zero]; rfl, ⟨by rw [backP_zero]; show UAt w B (midU us [] j 0); rw [show midU us [] j 0 = us by simp [midU]]; exact HU.out⟩, ⟨grownBy_refl _ _⟩⟩
  case round =>
    obtain ⟨i, hi, rfl, rfl, HR, HG⟩ := hrel
    obtain ⟨s1, s3, s4⟩ := backP_spec hu hv j i (by rw [HN.out]; exact hi) (by rw [HN.out]; exact hj)
    obtain ⟨b, hb⟩ : ∃ b, (backP us vs j i).2 = b := ⟨_, rfl⟩
    obtain ⟨r, hr⟩ : ∃ r, (backP us vs j i).1 = r := ⟨_, rfl⟩
    rw [hb] at s3
    rw [hr] at s4
    rw [hr] at HR
    have hlm := midU_len (us := us) (r := r) (j := j) (i := i) s4 (by omega)
    have hg := midU_get (us := us) (r := r) (j := j) (i := i) s4 (by omega)
    obtain ⟨k1, k2⟩ := HR.out.cell (j + i) (by rw [hlm]; omega)
    rw [hg] at k1
    have hud := hu us[j + i] (List.getElem_mem _)
    obtain ⟨a, ha⟩ : ∃ a : Nat, us[j + i] = (a : Int) := ⟨us[j + i].toNat, by omega⟩
    rw [ha] at k1 hud
    rw [hb]
    by_cases hlt : i < n
    · have hd : decide ((i : Int) < (n : Int)) = true := decide_eq_true (by omega)
      obtain ⟨ad, hA, hcell⟩ := Kd.at_int (HN.out ▸ HV.out wr HG.out : Kd.C (Kd.int .u32) wr A vs.length vs) (i : Int) (by omega) (by rw [HN.out]; omega)
      have hvi : i < vs.length := by rw [HN.out]; exact hlt
      have hvd := hv vs[i] (List.getElem_mem _)
      obtain ⟨y, hy⟩ : ∃ y : Nat, vs[i] = (y : Int) := ⟨vs[i].toNat, by omega⟩
      have hrd : rd vs (i : Int) = (y : Int) := by rw [← hy]; simp [rd, hvi]
      rw [hrd, Int.toNat_natCast] at hcell
      rw [hy] at hvd
      have hsucc := backP_succ us vs j i hvi (by omega)
      simp only [ha, hy, Int.toNat_natCast, hr, hb] at hsucc
      have ADD := Aside0.mk (add32_calls a y b (by omega) (by omega) s3)
      have hset := midU_set (us := us) (r := r) (j := j) (i := i) s4 (by omega)
      have HS := Aside0.mk hsucc
      have SET := Aside0.mk hset
      cases hA
      clear hsucc hset hg
      go_wp2_with (go_at_call 157; refine (ADD.out _).mono ?_; rintro e w' ⟨rfl, rfl⟩)
      go_roundw
      case rel => exact ⟨i + 1, by omega, by first | rfl | (rw [show wrap64 ((i : Int) + 1) = (i : Int) + 1 from (by unfold wrap64; omega)]; rfl), by rw [HS.out]; rfl, ⟨by rw [HS.out, ← SET.out]; exact HR.out.put _ _⟩, ⟨grownBy_put HG.out _ _⟩⟩
      case measure => simp [intOf]; omega
    · obtain rfl : i = n := by omega
      have hd : decide ((i : Int) < (i : Int)) = false := decide_eq_false (by omega)
      obtain rfl : a = x := by have := HX.out; omega
      have e4 : IntKind.u32.wrap ((a : Int) + (b : Int)) = (((a + b) % 4294967296 : Nat) : Int) := by rw [IntKind.wrap_u32']; omega
      have hset := midU_set (us := us) (r := r) (j := j) (i := i) s4 (by omega)
      have SET := Aside0.mk hset
      have p1 : (0 : Int) ≤ (i : Int) := by omega
      have p2 : (i : Int) < ((i + 1 : Nat) : Int) := by omega
      have p3 : (i : Int) < (i : Int) + 1 := by omega
      have RR := Aside0.mk hr
      have RB := Aside0.mk hb
      clear hset hg hr hb
      go_wp2
      all_goals
        go_end0
        rw [RR.out, RB.out]
        refine ⟨rfl, ?_, grownBy_put HG.out _ _⟩
        have h := HR.out.put (j + i) (((a + b) % 4294967296 : Nat) : Int)
        rw [SET.out] at h
        first | exact h | simpa using h
end Go.Proofs.YtibaoacjjcgjlaaGreatDoor.Print

namespace Go.Proofs.YtibaoacjjcgjlaaGreatDoor.Print
open Go.RowKit Go.Shelf Go.Proofs.YtibaoacjjcgjlaaGreatDoorW.PrintWords Go.Proofs.YtibaoacjjcgjlaaGreatDoorW.PrintLast Go.Proofs.YtibaoacjjcgjlaaGreatDoorW.PrintMore Go.Proofs.YtibaoacjjcgjlaaGreatDoor.Base
attribute [local go_sem] Oper.semAt_some
set_option linter.unusedVariables false
set_option linter.unusedSimpArgs false
theorem cmp_found {a b : List Int} (ha : DigB 4294967296 a) (hb : DigB 4294967296 b) {pre : List (Fin (max a.length b.length))} {x : Fin (max a.length b.length)}
    (hp : pre ++ [x] <+: backs (max a.length b.length)) (he : ∀ y ∈ pre, limbN a y.1 = limbN b y.1) :
    (limbN a x.1 < limbN b x.1 → valB 4294967296 a < valB 4294967296 b) ∧ (limbN b x.1 < limbN a x.1 → valB 4294967296 b < valB 4294967296 a) := by
  have hall : ∀ i, x.1 < i → i < max a.length b.length → limbN a i = limbN b i := fun i h1 h2 => by
    refine he ⟨i, h2⟩ ?_
    obtain ⟨t, ht⟩ := hp
    have hpair : (backs (max a.length b.length)).Pairwise (fun u v => v.1 < u.1) := by
      unfold backs
      rw [List.pairwise_reverse]
      exact List.pairwise_lt_finRange _
    have hmem : (⟨i, h2⟩ : Fin (max a.length b.length)) ∈ backs (max a.length b.length) := by simp [backs]
    rw [← ht] at hmem hpair
    rcases List.mem_append.1 hmem with h | h
    · rcases List.mem_append.1 h with h | h
      · exact h
      · have := List.mem_singleton.1 h
        rw [← this] at h1
        exact absurd h1 (Nat.lt_irrefl _)
    · have := (List.pairwise_append.1 hpair).2.2 x (by simp) _ h
      exact absurd this (by show ¬ i < x.1; omega)
  have sa := sumB_limb (B := 4294967296) a (max a.length b.length) (by omega)
  have sb := sumB_limb (B := 4294967296) b (max a.length b.length) (by omega)
  refine ⟨fun h => ?_, fun h => ?_⟩
  · rw [← sa, ← sb]
    exact sum_lt (by decide) (limbN_lt (by decide) ha) _ x.1 x.2 hall h
  · rw [← sa, ← sb]
    exact sum_lt (by decide) (limbN_lt (by decide) hb) _ x.1 x.2 (fun i h1 h2 => (hall i h1 h2).symm) h
theorem cmp_same {a b : List Int} (he : ∀ y ∈ backs (max a.length b.length), limbN a y.1 = limbN b y.1) : valB 4294967296 a = valB 4294967296 b := by
  rw [← sumB_limb (B := 4294967296) a (max a.length b.length) (by omega), ← sumB_limb (B := 4294967296) b (max a.length b.length) (by omega)]
  exact sumB_congr fun i hi => he ⟨i, hi⟩ (by simp [backs])
theorem Boxed.below4 {W W' : World} {B b : Nat} {t : TypeId} {v : Value} (h : Boxed W B t v) (hb : Below b W W') (hlt : B < b) : Boxed W' B t v := (hb.block _ hlt).trans h
theorem res_cell28 (tmps : Array Value) (w : World) (g : Nat) (v : Value) (hp : tmps.getD 4 undef = .pointer (some ⟨g, 0, none⟩)) (hc : w.cell? ⟨g, 0, none⟩ = some v) :
    (results Tryz.f33 tmps).run Tryz.prog w = .ok v w := by
  have hr : Tryz.f33.results = #[.cell 4 3] := rfl
  have hp' : tmps[4]?.getD undef = .pointer (some ⟨g, 0, none⟩) := by simpa using hp
  simp only [results, hr]
  simp [hp', asAddr, loadVar, Tryz.isAgg3, hc]
theorem putObj_boxed {W : World} {B D : Nat} {t : TypeId} {v : Value} (h : Boxed W B t v) (hlt : B < D) (o : Obj) : Boxed (W.putObj D o) B t v := h.kept (grownBy_putObj' W D o) (fun e => by cases e; omega)
theorem keepsF_drewN (W : World) (q : Nat) : KeepsOthers W (W.drewN q) := KeepsOthers.of_grownBy (row := none) ⟨rfl, rfl, rfl, Nat.le_refl _, fun _ _ _ => rfl⟩ (fun j o e => by cases e)
theorem keepsF_put (W : World) (q : Nat) (p : Addr) (v : Value) : KeepsOthers W ((W.drewN q).setCell p v) := (keepsF_drewN W q).trans (KeepsOthers.setCell _ _ _)
theorem below_put {w W : World} {p : Addr} {v : Value} {q : Nat} (h : Below w.heap.size w W) (hp : w.heap.size ≤ p.block) : Below w.heap.size w ((W.drewN q).setCell p v) := (bN9 h q).setCell hp _
def nat_Cmp.f (l0 l1 : List Int) : Option Int := if okN l0 = true ∧ okN l1 = true then some (cmpN (valB 4294967296 l0) (valB 4294967296 l1)) else none
set_option maxRecDepth 100000 in
set_option maxHeartbeats 16000000 in
theorem nat_Cmp.calls (A0 : Option Addr) (c0 : Nat) (l0 : List Int) (A1 : Option Addr) (c1 : Nat) (l1 : List Int) (r : Int) (w : World) (hr0 : Kd.C (Kd.int .u32) w A0 l0.length l0) (hc0 : l0.length ≤ c0) (hr1 : Kd.C (Kd.int .u32) w A1 l1.length l1) (hc1 : l1.length ≤ c1) (h : nat_Cmp.f l0 l1 = some r) :
    Calls Tryz.prog 33 #[.slice A0 l0.length c0, .slice A1 l1.length c1] w fun e w' => e = .returned (.int .i64 r) ∧ Below w.heap.size w w' := by
  unfold nat_Cmp.f at h
  by_cases ha : okN l0 = true ∧ okN l1 = true
  · rw [if_pos ha] at h
    obtain hr := Option.some.inj h
    obtain ⟨n0, d0⟩ := okN_iff.1 ha.1
    obtain ⟨n1, d1'⟩ := okN_iff.1 ha.2
    have HR0 := Aside0.mk hr0
    have HR1 := Aside0.mk hr1
    have HRES := Aside0.mk hr
    clear h ha hr0 hr1 hr
    obtain ⟨W3, hW3⟩ : ∃ W3, ((((w.alloc (.cells #[.slice A0 l0.length c0] 29)).alloc (.cells #[.slice A1 l1.length c1] 29)).alloc (.cells #[.int .i64 0] 3)).alloc (.cells #[.slice A0 l0.length c0, .slice A1 l1.length c1] 29)) = W3 := ⟨_, rfl⟩
    have b1 := Boxed.new w 29 (.slice A0 l0.length c0)
    have b2 := Boxed.new (w.alloc (.cells #[.slice A0 l0.length c0] 29)) 29 (.slice A1 l1.length c1)
    have b3 := Boxed.new ((w.alloc (.cells #[.slice A0 l0.length c0] 29)).alloc (.cells #[.slice A1 l1.length c1] 29)) 3 (.int .i64 0)
    have b4 := World.alloc_heap_new (((w.alloc (.cells #[.slice A0 l0.length c0] 29)).alloc (.cells #[.slice A1 l1.length c1] 29)).alloc (.cells #[.int .i64 0] 3)) (.cells #[.slice A0 l0.length c0, .slice A1 l1.length c1] 29)
    simp only [World.size_alloc] at b2 b3 b4
    have b1 := ((b1.alloc (.cells #[.slice A1 l1.length c1] 29)).alloc (.cells #[.int .i64 0] 3)).alloc (.cells #[.slice A0 l0.length c0, .slice A1 l1.length c1] 29)
    have b2 := (b2.alloc (.cells #[.int .i64 0] 3)).alloc (.cells #[.slice A0 l0.length c0, .slice A1 l1.length c1] 29)
    have b3 := b3.alloc (.cells #[.slice A0 l0.length c0, .slice A1 l1.length c1] 29)
    have hB3 : Below w.heap.size w W3 := by rw [← hW3]; repeat (first | exact Below.refl _ _ | apply bA9)
    have hsz : W3.heap.size = w.heap.size + 4 := by rw [← hW3]; simp
    rw [hW3] at b1 b2 b3 b4
    have hD := down_calls A0 l0.length c0 A1 l1.length c1 (w.heap.size + 1 + 1 + 1) W3 (by simp [World.cell?, b4]) (by simp [World.cell?, b4]) (by omega) (by omega) (by omega)
    obtain ⟨N, hN⟩ : ∃ N, max l0.length l1.length = N := ⟨_, rfl⟩
    have HN := Aside0.mk hN
    rw [hN] at hD
    have hNb : N ≤ 1048576 := by omega
    have HW := Aside0.mk hW3
    have HS := Aside0.mk hsz
    have HD := Aside0.mk hD
    clear hW3 hsz hD b4 hN
    refine callsIn_wide (n := 8).1 ?_
    refine callsIn_of_wp_marks Tryz.func33 rfl trivial ?_ rfl
    refine wpIn_wide.2 ?_
    simp only [Tryz.ntmps33, List.size_toArray, List.length_cons, List.length_nil, Nat.reduceAdd, Nat.reduceSub, Array.replicate_succ, Array.replicate_zero, List.push_toArray, List.append_toArray, List.nil_append, List.cons_append]
    go_wp2_with (go_at_call 63; rw [HW.out]; refine HD.out.mono ?_; rintro e W0 ⟨rfl, hb0, hB0⟩)
    rw [HS.out] at hb0 hB0 ⊢
    have b1 := Boxed.below4 b1 hB0 (by omega)
    have b2 := Boxed.below4 b2 hB0 (by omega)
    have b3 := Boxed.below4 b3 hB0 (by omega)
    have hBW : Below w.heap.size w W0 := hB3.trans (hB0.mono (by omega))
    have hs0 : w.heap.size + 4 ≤ W0.heap.size := by have := hB0.size; have := HS.out; omega
    clear hB3 hB0
    refine (wpIn_wide (n := 8)).1 ?_
    refine wpIn_rangeFunc_ownG rfl (by omega) (gf := 101) (lb := #[.pointer (some ⟨w.heap.size + 4, 0, none⟩)]) rfl trivial (enters_of Tryz.func101 (by kernel_rfl) rfl)
      (down_stops Fence.wide 7 trivial rfl (by omega) (w.heap.size + 4) N w.heap.size (by omega) W0 hb0) BackKeeps.trans (backKeeps_b hBW.size) (Below.refl _ _) (fun _ => rfl)
      (fun pre W => (((pre <+: backs N → ∀ y ∈ pre, limbN l0 y.1 = limbN l1 y.1) ∧ (Boxed W w.heap.size 29 (.slice A0 l0.length c0) ∧ Boxed W (w.heap.size + 1) 29 (.slice A1 l1.length c1))) ∧ Boxed W (w.heap.size + 1 + 1) 3 (.int .i64 0)) ∧ Below w.heap.size w W)
      (fun c pre W => (c = Code.ret ∧ (pre <+: backs N → Boxed W (w.heap.size + 1 + 1) 3 (.int .i64 r))) ∧ Below w.heap.size w W)
      (OwnFrom.and (OwnFrom.and (OwnFrom.and (ownFrom_pure _ _) (OwnFrom.and ((boxed_own _ _ _).from _) ((boxed_own _ _ _).from _))) ((boxed_own _ _ _).from _)) (ownFrom_below (Nat.le_refl _) hBW.size))
      (fun c => OwnFrom.and (OwnFrom.and (ownFrom_pure _ _) (fun s X Y row hs hg hr hp => ((boxed_own _ _ (fun _ => .int .i64 r)).from _) s X Y row (hs hp) hg hr)) (ownFrom_below (Nat.le_refl _) hBW.size))
      ⟨⟨⟨fun _ _ h => (by cases h), b1, b2⟩, b3⟩, hBW⟩
      (fun x => { tmps := #[.slice A0 l0.length c0, .slice A1 l1.length c1, .pointer (some ⟨w.heap.size, 0, none⟩), .pointer (some ⟨w.heap.size + 1, 0, none⟩), .pointer (some ⟨w.heap.size + 1 + 1, 0, none⟩), .int .i64 (x.1 : Int), undef, undef, .slice A0 l0.length c0, .slice A1 l1.length c1, .slice (some ⟨w.heap.size + 1 + 1 + 1, 0, none⟩) 2 2, .func (.func 101) #[] #[.pointer (some ⟨w.heap.size + 4, 0, none⟩)], .int .i64 (x.1 : Int), undef, undef, undef, undef, undef, undef, undef, undef, undef, undef, undef, undef, undef, undef], defers := [] }) ?assign ?body ?done ?stop
    case assign =>
      intro l x W K hK
      gi_wp2
      exact hK
    case body =>
      rintro l pre x W ⟨⟨⟨hq, bA, bB⟩, bR⟩, hB⟩ _
      have h1 := bA.cell
      have h2 := bB.cell
      have h3 := bR.cell
      have h4 := bR.frozen
      have cA := fun W h => limb_calls A0 c0 l0 (x.1 : Int) W h hc0 d0
      have cB := fun W h => limb_calls A1 c1 l1 (x.1 : Int) W h hc1 d1'
      rw [if_neg (by omega), Int.toNat_natCast] at cA cB
      have RA := Aside0.mk (Kd.cB9 HR0.out hB)
      have RB := Aside0.mk (Kd.cB9 HR1.out hB)
      have HQ := Aside0.mk hq
      have BA := Aside0.mk bA
      have BB := Aside0.mk bB
      have BR := Aside0.mk bR
      have HBB := Aside0.mk hB
      have hmix : Tryz.prog.follows .mixedOrders = true := by kernel_rfl
      clear hq bA bB bR hB
      have HX : Aside0 (pre ++ [x] <+: backs N → pre <+: backs N) := ⟨fun h => (List.prefix_append pre [x]).trans h⟩
      rcases Nat.lt_trichotomy (limbN l0 x.1) (limbN l1 x.1) with hlt | heq | hgt
      · have CMP := Aside0.mk hlt
        have d1 : decide ((limbN l0 x.1 : Int) < (limbN l1 x.1 : Int)) = true := decide_eq_true (by omega)
        have d1n : decide (limbN l0 x.1 < limbN l1 x.1) = true := decide_eq_true (by omega)
        clear hlt
        gi_wp2
        gi_region_with_o (first | (refine ⟨trivial, ?_⟩; gi_at_call 64; (with_reducible refine (CallsIn.inRound l (callsIn_wide.2 (cA _ ?_))).mono ?_); (repeat (first | (with_reducible exact RA.out) | (with_reducible refine Kd.cN9 ?_ _) | (with_reducible refine Kd.cD9 ?_))); rintro e w' ⟨rfl, ⟨q1, rfl⟩⟩) | (refine ⟨trivial, ?_⟩; gi_at_call 64; (with_reducible refine (CallsIn.inRound l (callsIn_wide.2 (cB _ ?_))).mono ?_); (repeat (first | (with_reducible exact RB.out) | (with_reducible refine Kd.cN9 ?_ _) | (with_reducible refine Kd.cD9 ?_))); rintro e w' ⟨rfl, ⟨q2, rfl⟩⟩))
        all_goals
          gi_wp2
          refine ⟨(keepsF_put _ _ _ _).from _, ⟨rfl, fun hp => ?_⟩, below_put HBB.out (show w.heap.size ≤ w.heap.size + 1 + 1 by omega)⟩
          have hr : r = -1 := by
            rw [← HRES.out]
            have hN := HN.out
            subst hN
            have := (cmp_found d0 d1' hp (HQ.out (HX.out hp))).1 CMP.out
            unfold cmpN; rw [if_pos this]
          rw [hr]
          exact Boxed.set _ (BR.out)
      · have CMP := Aside0.mk heq
        have d1 : decide ((limbN l0 x.1 : Int) < (limbN l1 x.1 : Int)) = false := decide_eq_false (by omega)
        have d1n : decide (limbN l0 x.1 < limbN l1 x.1) = false := decide_eq_false (by omega)
        have d2 : decide ((limbN l1 x.1 : Int) < (limbN l0 x.1 : Int)) = false := decide_eq_false (by omega)
        have d2n : decide (limbN l1 x.1 < limbN l0 x.1) = false := decide_eq_false (by omega)
        clear heq
        gi_wp2
        gi_region_with_o (first | (refine ⟨trivial, ?_⟩; gi_at_call 64; (with_reducible refine (CallsIn.inRound l (callsIn_wide.2 (cA _ ?_))).mono ?_); (repeat (first | (with_reducible exact RA.out) | (with_reducible refine Kd.cN9 ?_ _) | (with_reducible refine Kd.cD9 ?_))); rintro e w' ⟨rfl, ⟨q1, rfl⟩⟩) | (refine ⟨trivial, ?_⟩; gi_at_call 64; (with_reducible refine (CallsIn.inRound l (callsIn_wide.2 (cB _ ?_))).mono ?_); (repeat (first | (with_reducible exact RB.out) | (with_reducible refine Kd.cN9 ?_ _) | (with_reducible refine Kd.cD9 ?_))); rintro e w' ⟨rfl, ⟨q2, rfl⟩⟩))
        all_goals
          gi_wp2
          refine ⟨(keepsF_drewN _ _).from _, ⟨bN9 (Below.refl _ _) _, fun _ _ h => h⟩, ⟨⟨⟨fun hp y hy => ?_, BA.out, BB.out⟩, BR.out⟩, bN9 HBB.out _⟩⟩
          rcases List.mem_append.1 hy with hy | hy
          · exact HQ.out (HX.out hp) y hy
          · rw [List.mem_singleton.1 hy]; exact CMP.out
      · have CMP := Aside0.mk hgt
        have d1 : decide ((limbN l0 x.1 : Int) < (limbN l1 x.1 : Int)) = false := decide_eq_false (by omega)
        have d1n : decide (limbN l0 x.1 < limbN l1 x.1) = false := decide_eq_false (by omega)
        have d2 : decide ((limbN l1 x.1 : Int) < (limbN l0 x.1 : Int)) = true := decide_eq_true (by omega)
        have d2n : decide (limbN l1 x.1 < limbN l0 x.1) = true := decide_eq_true (by omega)
        clear hgt
        gi_wp2
        gi_region_with_o (first | (refine ⟨trivial, ?_⟩; gi_at_call 64; (with_reducible refine (CallsIn.inRound l (callsIn_wide.2 (cA _ ?_))).mono ?_); (repeat (first | (with_reducible exact RA.out) | (with_reducible refine Kd.cN9 ?_ _) | (with_reducible refine Kd.cD9 ?_))); rintro e w' ⟨rfl, ⟨q1, rfl⟩⟩) | (refine ⟨trivial, ?_⟩; gi_at_call 64; (with_reducible refine (CallsIn.inRound l (callsIn_wide.2 (cB _ ?_))).mono ?_); (repeat (first | (with_reducible exact RB.out) | (with_reducible refine Kd.cN9 ?_ _) | (with_reducible refine Kd.cD9 ?_))); rintro e w' ⟨rfl, ⟨q2, rfl⟩⟩))
        all_goals
          gi_wp2
          refine ⟨(keepsF_put _ _ _ _).from _, ⟨rfl, fun hp => ?_⟩, below_put HBB.out (show w.heap.size ≤ w.heap.size + 1 + 1 by omega)⟩
          have hr : r = 1 := by
            rw [← HRES.out]
            have hN := HN.out
            subst hN
            have := (cmp_found d0 d1' hp (HQ.out (HX.out hp))).2 CMP.out
            unfold cmpN; rw [if_neg (by omega), if_pos this]
          rw [hr]
          exact Boxed.set _ (BR.out)
    case done =>
      rintro D ys W hD rfl ⟨⟨⟨hq, bA, bB⟩, bR⟩, hB⟩ hK
      have h3 := bR.cell
      have h4 := bR.frozen
      have hr : r = 0 := by
        rw [← HRES.out]
        have hN := HN.out
        subst hN
        have := cmp_same (hq (List.prefix_refl _))
        unfold cmpN; rw [this]; simp
      have HR := Aside0.mk hr
      have BR := Aside0.mk bR
      have HB := Aside0.mk hB
      clear hq bA bB bR hB hr
      go_wp2
      have hK' : (W.setCell ⟨w.heap.size + 1 + 1, 0, none⟩ (.int .i64 0)).heap[D]? = some (.deferred (some [])) := (Below.heap_setCell W ⟨w.heap.size + 1 + 1, 0, none⟩ _ D (by show D ≠ w.heap.size + 1 + 1; omega)).trans hK
      refine ⟨by simp, .inl ⟨_, _, rfl, run_takeDeferred hK', ?_⟩⟩
      refine ⟨_, res_cell28 _ _ (w.heap.size + 1 + 1) (.int .i64 0) rfl (putObj_boxed (BR.out.set _) (by omega) _).cell, ?_, ?_⟩
      · rw [HR.out]
      · have h := HB.out.setCell (p := ⟨w.heap.size + 1 + 1, 0, none⟩) (show w.heap.size ≤ w.heap.size + 1 + 1 by omega) (.int .i64 0)
        exact h.trans (belowK_b (w := w) (Nat.le_refl _) _ D _ _ (by omega) hK' rfl rfl)
    case stop =>
      rintro D c pre W hD hp ⟨⟨rfl, hx⟩, hB⟩ hK
      have bR := hx hp
      have h3 := bR.cell
      have h4 := bR.frozen
      gi_wp2
      refine ⟨by simp, .inl ⟨_, _, rfl, run_takeDeferred hK, ?_⟩⟩
      exact ⟨_, res_cell28 _ _ (w.heap.size + 1 + 1) _ rfl (putObj_boxed bR (by omega) _).cell, rfl, hB.trans (belowK_b (w := w) (Nat.le_refl _) W D _ _ (by omega) hK rfl rfl)⟩
  · rw [if_neg ha] at h; cases h
end Go.Proofs.YtibaoacjjcgjlaaGreatDoor.Print

namespace Go.Proofs
open Go.RowKit Go.Shelf
shelf_lay Lays.n133 Nm 133 at Tryz as Tryz.layLead32
end Go.Proofs
namespace Go.Proofs.YtibaoacjjcgjlaaGreatDoor.Print
open Go.RowKit Go.Proofs.YtibaoacjjcgjlaaGreatDoorW.PrintWords Go.Proofs.YtibaoacjjcgjlaaGreatDoorW.PrintLast Go.Proofs.YtibaoacjjcgjlaaGreatDoorW.PrintMore Go.Proofs.YtibaoacjjcgjlaaGreatDoor.Base
set_option linter.unusedVariables false
set_option linter.unusedSimpArgs false
theorem slice_form {f : FuncId} {args : Array Value} {w : World} {base : Nat} {ok : Nat → Prop} {r : List Int} {n : Nat} (h : Calls Tryz.prog f args w fun e w' => ∃ v0_ : Value, e = .returned v0_ ∧ Kd.R (Kd.int .u32) 88 w' base ok v0_ r ∧ Below w.heap.size w w') (hn : r.length = n) :
    Calls Tryz.prog f args w fun e w' => ∃ A c, e = .returned (.slice A n c) ∧ n ≤ c ∧ Kd.R (Kd.int .u32) 88 w' base ok (.slice A n c) r ∧ Below w.heap.size w w' :=
  h.mono fun e w' ⟨v, he, hR, hb⟩ => by
    obtain ⟨A, c, rfl, hc, _⟩ := Kd.R_reads hR
    subst hn
    exact ⟨A, c, he, hc, hR, hb⟩
theorem C_of_R {w : World} {base : Nat} {ok : Nat → Prop} {A : Option Addr} {n c : Nat} {r : List Int} (h : Kd.R (Kd.int .u32) 88 w base ok (.slice A n c) r) (hn : r.length = n) : Kd.C (Kd.int .u32) w A r.length r := by
  obtain ⟨A', c', e, hc, hC⟩ := Kd.R_reads h
  cases e
  exact hC
theorem trim_call {l t : List Int} {n : Nat} (ht : trimL l = t) (hn : t.length = n) (hok : okN l = true) (A : Option Addr) (c : Nat) (w : World) (hr : Kd.C (Kd.int .u32) w A l.length l) (hc : l.length ≤ c) :
    Calls Tryz.prog 56 #[.slice A l.length c] w fun e w' => ∃ A' c', e = .returned (.slice A' n c') ∧ n ≤ c' ∧ Kd.R (Kd.int .u32) 88 w' w.heap.size (fun _ => True) (.slice A' n c') t ∧ Below w.heap.size w w' :=
  slice_form (nat_Trim.calls A c l t w hr hc (by rw [trim_f hok, ht])) hn
theorem trim_ok {l t : List Int} (h : trimL l = t) (hok : okN l = true) : okN t = true := by
  obtain ⟨h1, h2⟩ := okN_iff.1 hok
  rw [← h]
  exact okN_iff.2 ⟨Nat.le_trans (trimL_len_le l) h1, trimL_dig h2⟩
theorem cmp_call {ta tb : List Int} {na nb : Nat} (ka : okN ta = true) (kb : okN tb = true) (hna : ta.length = na) (hnb : tb.length = nb) (Aa : Option Addr) (ca : Nat) (Ab : Option Addr) (cb : Nat) (w : World) (h1 : Kd.C (Kd.int .u32) w Aa ta.length ta) (h2 : na ≤ ca) (h3 : Kd.C (Kd.int .u32) w Ab tb.length tb) (h4 : nb ≤ cb) :
    Calls Tryz.prog 33 #[.slice Aa na ca, .slice Ab nb cb] w fun e w' => e = .returned (.int .i64 (cmpN (valB 4294967296 ta) (valB 4294967296 tb))) ∧ Below w.heap.size w w' := by
  subst hna
  subst hnb
  exact nat_Cmp.calls Aa ca ta Ab cb tb _ w h1 h2 h3 h4 (by unfold nat_Cmp.f; rw [if_pos ⟨ka, kb⟩])
def quo_DivMod.f (l0 l1 : List Int) : Option (List Int × List Int × Int) :=
  if okN l0 = true ∧ okN l1 = true ∧ l0.length ≤ 1048000 ∧ l1.length ≤ 1048000 then (if valB 4294967296 l1 = 0 then some ([], [], 17) else some (digB 4294967296 (valB 4294967296 l0 / valB 4294967296 l1), digB 4294967296 (valB 4294967296 l0 % valB 4294967296 l1), 0)) else none
def DivPost (w : World) (q r : List Int) (x : Int) (e : Ending) (w' : World) : Prop := ∃ v0_ v1_ : Value, e = .returned (.tuple #[v0_, v1_, .int .i64 x]) ∧ Kd.R (Kd.int .u32) 88 w' w.heap.size (fun k_ => some k_ ≠ (v1_ : Value).ownBlock) v0_ q ∧ Kd.R (Kd.int .u32) 88 w' w.heap.size (fun k_ => some k_ ≠ (v0_ : Value).ownBlock) v1_ r ∧ Below w.heap.size w w'
theorem addr_zero (ad : Addr) : ad.add 0 = ad := by
  cases ad with
  | mk b o sp => cases sp <;> simp [Addr.add]
theorem uAt_C {W : World} {B : Nat} {us : List Int} (h : UAt W B us) (hl : us.length ≤ 1073741824) {j n : Nat} (hj : j + n ≤ us.length) : Kd.C (Kd.int .u32) W (some ⟨B, j, none⟩) ((us.drop j).take n).length ((us.drop j).take n) := by
  refine Kd.C_of_reads (d := (0 : Int)) ⟨rfl, ?_, fun _ => ⟨_, rfl, fun i hi => ?_⟩⟩
  · simp; omega
  · have hi' : i < n := by simp at hi; omega
    obtain ⟨k1, _⟩ := h.cell (j + i) (by omega)
    rw [show (⟨B, j, none⟩ : Addr).add i = ⟨B, j + i, none⟩ by simp [Addr.add], k1]
    simp [List.getElem?_take, hi', List.getElem?_drop, show j + i < us.length by omega]
theorem uAt_of_R {W : World} {base : Nat} {ok : Nat → Prop} {B : Nat} {us : List Int} {n : Nat} (h : Kd.R (Kd.int .u32) 88 W base ok (.slice (some ⟨B, 0, none⟩) n n) us) (hn : us.length = n) : UAt W B us := by
  have ho := Kd.own_of_R h
  obtain ⟨hlen, h2⟩ := ho
  rcases h2 with ⟨e, _⟩ | ⟨g, cap, cur, e, _, hh, _, _, hsz, hc⟩
  · cases e
  · cases e
    unfold UAt
    rw [hh]
    have : cur.toList = us.map (Value.int .u32) := by
      rw [← show encs (Value.int .u32) us = us.map (Value.int .u32) from rfl, ← hc, List.take_of_length_le (by simp [hsz, hn])]
    rw [← this]
theorem part_val {us : List Int} {j n : Nat} (hj : j + n < us.length) {x : Nat} (hx : us[j + n] = (x : Int)) : valB 4294967296 ((us.drop j).take (n + 1)) = valB 4294967296 ((us.drop j).take n) + 4294967296 ^ n * x := by
  rw [valB_take_succ (us.drop j) (by rw [List.length_drop]; omega)]
  congr 2
  simp only [limbN, List.getD_eq_getElem?_getD, List.getElem?_drop, List.getElem?_eq_getElem hj, Option.getD_some, hx, Int.toNat_natCast]
theorem midU_eq {us r : List Int} {j n : Nat} : midU us r j (n + 1) = us.take j ++ r ++ us.drop (j + n + 1) := by unfold midU; rw [show j + (n + 1) = j + n + 1 by omega]
theorem round_a {A V n L g : Nat} {us qs vs : List Int} {j : Nat} (h : DivAt 4294967296 A V n L us qs (j + 1)) (hV : V < 4294967296 ^ n) (hV0 : 0 < V) (hj : j + n < L) (hq : j < qs.length) (hvn : vs.length = n) (hv : DigB 4294967296 vs) (ev : valB 4294967296 vs = V)
    {x : Nat} (hx : us[j + n]'(by rw [h.len]; exact hj) = (x : Int)) (gk : GuessOk 4294967296 (valB 4294967296 ((us.drop j).take (n + 1))) V g) (hb : ¬ x < (takeP g us vs j n).2.1 + (takeP g us vs j n).2.2) :
    DivAt 4294967296 A V n L (midU us ((takeP g us vs j n).1 ++ [(((x + 4294967296 - (takeP g us vs j n).2.1 - (takeP g us vs j n).2.2) % 4294967296 : Nat) : Int)]) j (n + 1)) (qs.set j (g : Int)) j := by
  have hlen := h.len
  obtain ⟨h1, h2, h3⟩ := h.part (by decide) hV hj
  have hxm := h.dig us[j + n] (List.getElem_mem _)
  rw [hx] at hxm
  have hT : takeP g us vs j n = Base.takeB 4294967296 g ((us.drop j).take n) vs 0 0 := by unfold takeP; rw [List.take_of_length_le (l := vs) (by omega)]
  have hl : ((us.drop j).take n).length = vs.length := by simp; omega
  obtain ⟨pa, _⟩ := part_down (B := 4294967296) (q := g) (us := (us.drop j).take n) (vs := vs) (t := (x : Int)) (by decide) hl ((h.dig.drop j).take n) hv ⟨by omega, by omega⟩
    (U := valB 4294967296 ((us.drop j).take (n + 1))) (by rw [part_val (by omega) hx, Int.toNat_natCast, show ((us.drop j).take n).length = n by simp; omega]) ev.symm gk hV0 (d := (((x + 4294967296 - (takeP g us vs j n).2.1 - (takeP g us vs j n).2.2) % 4294967296 : Nat) : Int)) (b := 0) (by rw [hT, Int.toNat_natCast]) (by rw [if_neg (by rw [← hT, Int.toNat_natCast]; exact hb)])
  obtain ⟨p1, p2⟩ := pa rfl
  obtain ⟨t1, t2, t3, t4⟩ := takeP_spec gk.lt h.dig hv j n (by omega) (by omega)
  rw [midU_eq, hT]
  rw [hT] at t1 t4 p1
  refine h.next (by decide) hV hV0 hj hq (t1.append (DigB.cons (by omega) (by omega) (DigB.nil _))) (by simp [t4]) ?_ (by rw [p2, h1])
  rw [p1, h1]
theorem round_b {A V n L g : Nat} {us qs vs : List Int} {j : Nat} (h : DivAt 4294967296 A V n L us qs (j + 1)) (hV : V < 4294967296 ^ n) (hV0 : 0 < V) (hj : j + n < L) (hq : j < qs.length) (hvn : vs.length = n) (hv : DigB 4294967296 vs) (ev : valB 4294967296 vs = V)
    {x : Nat} (hx : us[j + n]'(by rw [h.len]; exact hj) = (x : Int)) (gk : GuessOk 4294967296 (valB 4294967296 ((us.drop j).take (n + 1))) V g) (hb : x < (takeP g us vs j n).2.1 + (takeP g us vs j n).2.2) {us1 : List Int} {d : Nat}
    (hd : (x + 4294967296 - (takeP g us vs j n).2.1 - (takeP g us vs j n).2.2) % 4294967296 = d) (h1 : us1 = midU us ((takeP g us vs j n).1 ++ [(d : Int)]) j (n + 1)) :
    1 ≤ g ∧ us1.length = L ∧ DigB 4294967296 us1 ∧ us1[j + n]? = some (d : Int) ∧ DivAt 4294967296 A V n L (midU us1 ((backP us1 vs j n).1 ++ [(((d + (backP us1 vs j n).2) % 4294967296 : Nat) : Int)]) j (n + 1)) (qs.set j ((g - 1 : Nat) : Int)) j := by
  have hlen := h.len
  obtain ⟨k1, k2, k3⟩ := h.part (by decide) hV hj
  have hxm := h.dig us[j + n] (List.getElem_mem _)
  rw [hx] at hxm
  have hT : takeP g us vs j n = Base.takeB 4294967296 g ((us.drop j).take n) vs 0 0 := by unfold takeP; rw [List.take_of_length_le (l := vs) (by omega)]
  have hl : ((us.drop j).take n).length = vs.length := by simp; omega
  obtain ⟨_, pb⟩ := part_down (B := 4294967296) (q := g) (us := (us.drop j).take n) (vs := vs) (t := (x : Int)) (by decide) hl ((h.dig.drop j).take n) hv ⟨by omega, by omega⟩
    (U := valB 4294967296 ((us.drop j).take (n + 1))) (by rw [part_val (by omega) hx, Int.toNat_natCast, show ((us.drop j).take n).length = n by simp; omega]) ev.symm gk hV0 (d := (d : Int)) (b := 1) (by rw [← hd, hT, Int.toNat_natCast]) (by rw [if_pos (by rw [← hT, Int.toNat_natCast]; exact hb)])
  obtain ⟨g1, p1, p2⟩ := pb rfl
  obtain ⟨t1, t2, t3, t4⟩ := takeP_spec gk.lt h.dig hv j n (by omega) (by omega)
  have hdl : d < 4294967296 := by rw [← hd]; exact Nat.mod_lt _ (by decide)
  have hr : ((takeP g us vs j n).1 ++ [(d : Int)]).length = n + 1 := by simp [t4]
  have hl1 : us1.length = L := by rw [h1, midU_len hr (by omega), hlen]
  have hD1 : DigB 4294967296 us1 := by
    rw [h1, midU_eq]
    exact ((h.dig.take j).append (t1.append (DigB.cons (by omega) (by omega) (DigB.nil _)))).append (h.dig.drop _)
  have htk : (us.take j).length = j := by rw [List.length_take]; omega
  have e1 : us1.take j = us.take j := by
    rw [h1, midU_eq, List.append_assoc, List.take_append_of_le_length (by omega), List.take_of_length_le (by omega)]
  have e2 : us1.drop j = ((takeP g us vs j n).1 ++ [(d : Int)]) ++ us.drop (j + n + 1) := by
    rw [h1, midU_eq, List.append_assoc, List.drop_append_of_le_length (by omega), List.drop_eq_nil_of_le (by omega), List.nil_append]
  have e3 : us1.drop (j + n + 1) = us.drop (j + n + 1) := by
    rw [show j + n + 1 = j + (n + 1) by omega, ← List.drop_drop, e2, List.drop_append_of_le_length (by omega), List.drop_eq_nil_of_le (by omega), List.nil_append]
    rfl
  have e4 : (us1.drop j).take n = (takeP g us vs j n).1 := by
    rw [e2, List.append_assoc, List.take_append_of_le_length (by omega), List.take_of_length_le (by omega)]
  have hB : backP us1 vs j n = backB 4294967296 (Base.takeB 4294967296 g ((us.drop j).take n) vs 0 0).1 vs 0 := by
    unfold backP
    rw [List.take_of_length_le (l := vs) (by omega), e4, hT]
  refine ⟨g1, hl1, hD1, ?_, ?_⟩
  · have : us1[j + n]? = (us1.drop j)[n]? := by rw [List.getElem?_drop]
    rw [this, e2, List.append_assoc, List.getElem?_append_right (by omega)]
    simp [t4]
  · rw [midU_eq, e1, e3, hB]
    obtain ⟨b2, b3, b4⟩ := backP_spec hD1 hv j n (by omega) (by omega)
    rw [hB] at b2 b3 b4
    have ey : (((d + (backB 4294967296 (Base.takeB 4294967296 g ((us.drop j).take n) vs 0 0).1 vs 0).2) % 4294967296 : Nat) : Int) = ((d : Int) + ((backB 4294967296 (Base.takeB 4294967296 g ((us.drop j).take n) vs 0 0).1 vs 0).2 : Int)) % ((4294967296 : Nat) : Int) := by rw [Int.natCast_emod, Int.natCast_add]
    refine h.next (by decide) hV hV0 hj hq (b2.append (DigB.cons (by omega) (by omega) (DigB.nil _))) (by simp [b4]) ?_ (by rw [p2, k1])
    rw [ey, p1, k1]
theorem lt_bitLenAux : ∀ (f x : Nat), x < 2 ^ f → x < 2 ^ (Lib.bitLenAux f x)
  | 0, x, h => by simpa [Lib.bitLenAux] using h
  | f + 1, x, h => by
    unfold Lib.bitLenAux
    by_cases h0 : x = 0
    · rw [if_pos h0, h0]; decide
    · rw [if_neg h0]
      have := lt_bitLenAux f (x / 2) (by rw [Nat.pow_succ] at h; omega)
      rw [Nat.pow_add, Nat.pow_one]; omega
theorem lt_bitLen {x : Nat} (h : x < 4294967296) : x < 2 ^ Lib.bitLen x := lt_bitLenAux 64 x (by omega)
theorem info22 : (Tryz.prog.info? 88).map (·.size) = some 1 := by kernel_rfl
theorem mk_u32 (t : TypeId) (ht : Tryz.prog.underlying t = some (.slice 88)) (m : Nat) (i : Int) (hi : i = (m : Int)) (hm : m ≤ 1073741824) :
    ∀ W : World, (Instr.makeSlice t (.int .i64 i) (.int .i64 i)).run Tryz.prog W = .ok (.slice (some ⟨W.heap.size, 0, none⟩) m m) (W.alloc (.cells (madeCells #[.int .u32 0] m) 88)) := by
  subst hi
  exact print_make (P := Tryz.prog) t 88 .u32 4 ht infoU32 (by decide) m (by omega)
theorem made_R (W : World) (m : Nat) (hm : m ≤ 1073741824) : Kd.R (Kd.int .u32) 88 (W.alloc (.cells (madeCells #[.int .u32 0] m) 88)) W.heap.size (fun k => k = W.heap.size) (.slice (some ⟨W.heap.size, 0, none⟩) m m) (List.replicate m 0) :=
  Kd.R_of_own (own_made' W W.heap.size 88 .u32 m (Nat.le_refl _) (by omega)) (fun k hk => by simpa [Value.ownBlock, eq_comm] using hk)
section
variable (A0 : Option Addr) (c0 : Nat) (l0 : List Int) (A1 : Option Addr) (c1 : Nat) (l1 : List Int) (w : World) (hr0 : Kd.C (Kd.int .u32) w A0 l0.length l0) (hc0 : l0.length ≤ c0) (hr1 : Kd.C (Kd.int .u32) w A1 l1.length l1) (hc1 : l1.length ≤ c1)
  (ok0 : okN l0 = true) (ok1 : okN l1 = true) (ta tb : List Int) (na nb : Nat) (hta : trimL l0 = ta) (htb : trimL l1 = tb) (hna : ta.length = na) (hnb : tb.length = nb)
include hr0 hc0 hr1 hc1 ok0 ok1 hta htb hna hnb
set_option maxRecDepth 100000 in
set_option maxHeartbeats 4000000 in
theorem div_zero_calls (h0 : nb = 0) : Calls Tryz.prog 118 #[.slice A0 l0.length c0, .slice A1 l1.length c1] w (DivPost w [] [] 17) := by
  have T0 := trim_call hta hna ok0 A0 c0
  have T1 := trim_call htb hnb ok1 A1 c1
  have HR0 := Aside0.mk hr0
  have HR1 := Aside0.mk hr1
  subst h0
  clear hr0 hr1 hta htb
  go_enter Tryz.func118, Tryz.ntmps118
  go_wp2_with (first | (go_at_call 56; (with_reducible refine (T0 _ HR0.out hc0).mono ?_); rintro e w1 ⟨Aa, ca, rfl, hca, hra, hb1⟩) | (go_at_call 56; (with_reducible refine (T1 _ (Kd.cB9 HR1.out hb1) hc1).mono ?_); rintro e w2 ⟨Ab, cb, rfl, hcb, hrb, hb2⟩))
  go_ret3
  exact ⟨_, _, rfl, Kd.R_nil _ _ _ _ _, Kd.R_nil _ _ _ _ _, hb1.trans (hb2.mono hb1.size)⟩
set_option maxRecDepth 100000 in
set_option maxHeartbeats 8000000 in
theorem div_less_calls (h0 : nb ≠ 0) (hlt : valB 4294967296 ta < valB 4294967296 tb) : Calls Tryz.prog 118 #[.slice A0 l0.length c0, .slice A1 l1.length c1] w (DivPost w [] ta 0) := by
  have T0 := trim_call hta hna ok0 A0 c0
  have T1 := trim_call htb hnb ok1 A1 c1
  have HR0 := Aside0.mk hr0
  have HR1 := Aside0.mk hr1
  have CMP := fun Aa ca Ab cb W k1 k2 k3 k4 => cmp_call (ta := ta) (tb := tb) (trim_ok hta ok0) (trim_ok htb ok1) hna hnb Aa ca Ab cb W k1 k2 k3 k4
  rw [show cmpN (valB 4294967296 ta) (valB 4294967296 tb) = -1 by unfold cmpN; rw [if_pos hlt]] at CMP
  have hd0 : ((nb : Int) == 0) = false := beq_eq_false_iff_ne.mpr (by omega)
  have HNA := Aside0.mk hna
  have HNB := Aside0.mk hnb
  clear hr0 hr1 hta htb hna hnb
  go_enter Tryz.func118, Tryz.ntmps118
  go_wp2_with (first | (go_at_call 56; (with_reducible refine (T0 _ HR0.out hc0).mono ?_); rintro e w1 ⟨Aa, ca, rfl, hca, hra, hb1⟩; have HRA := Aside0.mk hra; clear hra) | (go_at_call 56; (with_reducible refine (T1 _ (Kd.cB9 HR1.out hb1) hc1).mono ?_); rintro e w2 ⟨Ab, cb, rfl, hcb, hrb, hb2⟩; have HRB := Aside0.mk hrb; clear hrb) | (go_at_call 33; refine (CMP _ _ _ _ _ (C_of_R (Kd.rB9 HRA.out hb2) HNA.out) hca (C_of_R HRB.out HNB.out) hcb).mono ?_; rintro e w3 ⟨rfl, hb3⟩))
  go_ret3
  refine ⟨_, _, rfl, Kd.R_nil _ _ _ _ _, ?_, (hb1.trans (hb2.mono hb1.size)).trans (hb3.mono (Nat.le_trans hb1.size hb2.size))⟩
  exact Kd.R_mono (Kd.rB9 (Kd.rB9 HRA.out hb2) hb3) (fun k _ h => by cases h)
set_option maxRecDepth 100000 in
set_option maxHeartbeats 8000000 in
theorem div_one_calls (h1 : nb = 1) (hle : valB 4294967296 tb ≤ valB 4294967296 ta) (h0 : valB 4294967296 tb ≠ 0) : Calls Tryz.prog 118 #[.slice A0 l0.length c0, .slice A1 l1.length c1] w (DivPost w (digB 4294967296 (valB 4294967296 ta / valB 4294967296 tb)) (digB 4294967296 (valB 4294967296 ta % valB 4294967296 tb)) 0) := by
  have T0 := trim_call hta hna ok0 A0 c0
  have T1 := trim_call htb hnb ok1 A1 c1
  have HR0 := Aside0.mk hr0
  have HR1 := Aside0.mk hr1
  obtain ⟨c, hc⟩ : ∃ c, cmpN (valB 4294967296 ta) (valB 4294967296 tb) = c := ⟨_, rfl⟩
  have CMP := fun Aa ca Ab cb W k1 k2 k3 k4 => cmp_call (ta := ta) (tb := tb) (trim_ok hta ok0) (trim_ok htb ok1) hna hnb Aa ca Ab cb W k1 k2 k3 k4
  rw [hc] at CMP
  have hc0' : decide (c < 0) = false := decide_eq_false (by rw [← hc]; unfold cmpN; rw [if_neg (by omega)]; split <;> omega)
  have hok := trim_ok hta ok0
  have hokb := (okN_iff.1 (trim_ok htb ok1)).2
  obtain ⟨d, rfl⟩ : ∃ d, tb = [d] := by
    match tb, hnb.trans h1 with
    | [d], _ => exact ⟨d, rfl⟩
  have hdd := hokb d (by simp)
  obtain ⟨y, rfl⟩ : ∃ y : Nat, d = y := ⟨d.toNat, by omega⟩
  have hv : valB 4294967296 [(y : Int)] = y := by rw [valB_cons, valB_nil]; simp
  rw [hv] at h0 hle ⊢
  have SH := fun A c W k1 k2 => quo_ShortC.calls A c ta (y : Int) (digB 4294967296 (valB 4294967296 ta / y)) ((valB 4294967296 ta % y : Nat) : Int) 0 W k1 k2 (by
    unfold quo_ShortC.f
    rw [if_pos ⟨hok, by omega, by omega⟩, if_neg (by omega), Int.toNat_natCast])
  obtain ⟨m, hm⟩ : ∃ m, valB 4294967296 ta % y = m := ⟨_, rfl⟩
  have hmlt : m < y := by rw [← hm]; exact Nat.mod_lt _ (by omega)
  rw [hm] at SH
  rw [hm]
  have hw : IntKind.u64.wrap (m : Int) = (m : Int) := u64_id (by omega)
  have OF := fun W => nat_Of.calls (m : Int) (digB 4294967296 m) W (by unfold nat_Of.f; rw [if_pos (by omega), Int.toNat_natCast])
  rw [hna] at SH
  have HNA := Aside0.mk hna
  have HC1 := Aside0.mk hc1
  clear hr0 hr1 hta htb hna hokb hm hc hv
  have HNB := Aside0.mk hnb
  subst h1
  clear hnb
  go_enter Tryz.func118, Tryz.ntmps118
  go_wp2_with (first | (go_at_call 56; (with_reducible refine (T0 _ HR0.out hc0).mono ?_); rintro e w1 ⟨Aa, ca, rfl, hca, hra, hb1⟩; have HRA := Aside0.mk hra; clear hra) | (go_at_call 56; (with_reducible refine (T1 _ (Kd.cB9 HR1.out hb1) hc1).mono ?_); rintro e w2 ⟨Ab, cb, rfl, hcb, hrb, hb2⟩; have HRB := Aside0.mk hrb; clear hrb) | (go_at_call 33; refine (CMP _ _ _ _ _ (C_of_R (Kd.rB9 HRA.out hb2) HNA.out) hca (C_of_R HRB.out HNB.out) hcb).mono ?_; rintro e w3 ⟨rfl, hb3⟩; obtain ⟨ad, hA, hcell⟩ := Kd.at_int (C_of_R (Kd.rB9 HRB.out hb3) HNB.out) 0 (by decide) (by simp); cases hA; replace hcell := hcell.trans (show some (Value.int .u32 (rd [(y : Int)] 0)) = some (.int .u32 (y : Int)) from rfl); rw [show (0 : Int).toNat = 0 from rfl, addr_zero] at hcell) | (go_at_call 57; refine (SH _ _ _ (HNA.out ▸ C_of_R (Kd.rB9 (Kd.rB9 HRA.out hb2) hb3) HNA.out) hca).mono ?_; rintro e w4 ⟨v4, rfl, hr4, hb4⟩; obtain ⟨Aq, cq, rfl⟩ := Kd.rS9 hr4) | (go_at_call 34; refine (OF _).mono ?_; rintro e w5 ⟨v5, rfl, hr5, hb5⟩))
  go_ret3
  have e5 : Below w4.heap.size w4 w5 := hb5
  have q5 := Kd.R_elder hr4 hr5 (hb5)
  have r5 := Kd.R_newR hr5 hr4
  have s3 : w.heap.size ≤ w3.heap.size := Nat.le_trans hb1.size (Nat.le_trans hb2.size hb3.size)
  have s4 : w.heap.size ≤ w4.heap.size := Nat.le_trans s3 hb4.size
  refine ⟨_, _, rfl, Kd.R_mono (Kd.rL9 q5 s3) (fun k hk => hk.2), Kd.R_mono (Kd.rL9 r5 s4) (fun k hk => hk.2), ?_⟩
  exact (((hb1.trans (hb2.mono hb1.size)).trans (hb3.mono (Nat.le_trans hb1.size hb2.size))).trans (hb4.mono s3)).trans (hb5.mono s4)
set_option maxRecDepth 100000 in
set_option maxHeartbeats 16000000 in
theorem div_main_calls (h2 : 2 ≤ nb) (hle : valB 4294967296 tb ≤ valB 4294967296 ta) (hcan : tb.getLast? ≠ some 0) (hcana : ta.getLast? ≠ some 0) (hlen : na ≤ 1048000) : Calls Tryz.prog 118 #[.slice A0 l0.length c0, .slice A1 l1.length c1] w (DivPost w (digB 4294967296 (valB 4294967296 ta / valB 4294967296 tb)) (digB 4294967296 (valB 4294967296 ta % valB 4294967296 tb)) 0) := by
  have T0 := trim_call hta hna ok0 A0 c0
  have T1 := trim_call htb hnb ok1 A1 c1
  have HR0 := Aside0.mk hr0
  have HR1 := Aside0.mk hr1
  obtain ⟨c, hc⟩ : ∃ c, cmpN (valB 4294967296 ta) (valB 4294967296 tb) = c := ⟨_, rfl⟩
  have CMP := fun Aa ca Ab cb W k1 k2 k3 k4 => cmp_call (ta := ta) (tb := tb) (trim_ok hta ok0) (trim_ok htb ok1) hna hnb Aa ca Ab cb W k1 k2 k3 k4
  rw [hc] at CMP
  have hc0' : decide (c < 0) = false := decide_eq_false (by rw [← hc]; unfold cmpN; rw [if_neg (by omega)]; split <;> omega)
  have hd0 : ((nb : Int) == 0) = false := beq_eq_false_iff_ne.mpr (by omega)
  have hd1 : ((nb : Int) == 1) = false := beq_eq_false_iff_ne.mpr (by omega)
  have oka := trim_ok hta ok0
  have okb := trim_ok htb ok1
  obtain ⟨lb, db⟩ := okN_iff.1 okb
  obtain ⟨la, da⟩ := okN_iff.1 oka
  obtain ⟨va, hva⟩ : ∃ va, valB 4294967296 ta = va := ⟨_, rfl⟩
  obtain ⟨vb, hvb⟩ : ∃ vb, valB 4294967296 tb = vb := ⟨_, rfl⟩
  obtain ⟨hxr, hx2⟩ := rd_nat db (show nb - 1 < tb.length by omega)
  obtain ⟨x, hx⟩ : ∃ x, limbN tb (nb - 1) = x := ⟨_, rfl⟩
  rw [hx] at hxr hx2
  have hx0 : 1 ≤ x := by
    rcases Nat.eq_zero_or_pos x with h0 | h0
    · exfalso; apply hcan
      rw [List.getLast?_eq_getElem?, hnb, List.getElem?_eq_getElem (by omega)]
      have := db tb[nb - 1] (List.getElem_mem _)
      simp only [limbN, List.getD_eq_getElem?_getD, List.getElem?_eq_getElem (show nb - 1 < tb.length by omega), Option.getD_some] at hx
      congr 1; omega
    · exact h0
  have hxb := lt_bitLen hx2
  have hxe := Any.bitLen_le32 (x : Int) (by omega) (by omega)
  rw [Int.toNat_natCast] at hxe
  have hxp : 1 ≤ Lib.bitLen x := by
    rcases Nat.eq_zero_or_pos (Lib.bitLen x) with h0 | h0
    · rw [h0] at hxb; simp at hxb; omega
    · exact h0
  have LEAD := fun W => Any.bits_LeadingZeros32 Tryz.layLead32 (x : Int) W (by omega) (by omega)
  rw [Int.toNat_natCast] at LEAD
  obtain ⟨s, hs⟩ : ∃ s, 32 - Lib.bitLen x = s := ⟨_, rfl⟩
  rw [show (32 : Int) - ((Lib.bitLen x : Nat) : Int) = (s : Int) by omega] at LEAD
  have hs32 : s < 32 := by omega
  have hvbl : vb < 4294967296 ^ (nb - 1) * (x + 1) := by
    have := valB_take_succ (B := 4294967296) tb (show nb - 1 < tb.length by omega)
    rw [show nb - 1 + 1 = nb by omega, List.take_of_length_le (by omega), hx, hvb] at this
    have h2 := valB_lt 4294967296 (tb.take (nb - 1)) (db.take _)
    rw [List.length_take, Nat.min_eq_left (by omega)] at h2
    rw [Nat.mul_add, Nat.mul_one]; omega
  have hvbg : 4294967296 ^ (nb - 1) ≤ vb := by
    have := (GoodB.mk db hcan : GoodB 4294967296 tb).len_lt (by intro e; rw [e] at hnb; simp at hnb; omega)
    rwa [hnb, hvb] at this
  have hVlt : 2 ^ s * vb < 4294967296 ^ nb := by
    have h3 : x + 1 ≤ 2 ^ (32 - s) := by rw [show 32 - s = Lib.bitLen x by omega]; exact hxb
    have h4 : 2 ^ s * vb < 2 ^ s * (4294967296 ^ (nb - 1) * (x + 1)) := Nat.mul_lt_mul_of_pos_left hvbl (Nat.two_pow_pos _)
    have h5 : 2 ^ s * (4294967296 ^ (nb - 1) * (x + 1)) ≤ 2 ^ s * (4294967296 ^ (nb - 1) * 2 ^ (32 - s)) := Nat.mul_le_mul_left _ (Nat.mul_le_mul_left _ h3)
    have h6 : 2 ^ s * (4294967296 ^ (nb - 1) * 2 ^ (32 - s)) = 4294967296 ^ nb := by
      rw [Nat.mul_left_comm, ← two_pow_split s hs32, ← Nat.pow_succ]; congr 1; omega
    omega
  have hVge : 4294967296 ^ (nb - 1) ≤ 2 ^ s * vb := by
    have : 1 * vb ≤ 2 ^ s * vb := Nat.mul_le_mul_right _ (Nat.two_pow_pos _)
    omega
  obtain ⟨vs, hvs⟩ : ∃ vs, digB 4294967296 (2 ^ s * vb) = vs := ⟨_, rfl⟩
  have hvsn : vs.length = nb := by
    rw [← hvs]
    have h3 := digB_len (by decide) hVlt
    have h4 := digB_len_ge (by decide) hVge
    omega
  have gvs : GoodB 4294967296 vs := by rw [← hvs]; exact digB_good _ (by decide) _
  have evs : valB 4294967296 vs = 2 ^ s * vb := by rw [← hvs]; exact digB_val _ (by decide) _
  have SHB := fun A cc W k1 k2 => slice_form (nat_Shl.calls A cc tb (s : Int) vs W k1 k2 (by unfold nat_Shl.f; rw [if_pos ⟨okb, by omega, by omega⟩, Int.toNat_natCast, hvb, hvs])) hvsn
  obtain ⟨ys, hys⟩ : ∃ ys, digB 4294967296 (2 ^ s * va) = ys := ⟨_, rfl⟩
  obtain ⟨ny, hny⟩ : ∃ ny, ys.length = ny := ⟨_, rfl⟩
  have hvalt : va < 4294967296 ^ na := by rw [← hva, ← hna]; exact valB_lt _ _ da
  have hysn : ny ≤ na + 1 := by
    rw [← hny, ← hys]
    refine digB_len (by decide) ?_
    rw [Nat.pow_succ, Nat.mul_comm]
    exact Nat.mul_lt_mul_of_lt_of_le hvalt (show 2 ^ s ≤ 4294967296 from Nat.le_trans (Nat.pow_le_pow_right (by decide) (show s ≤ 32 by omega)) (by decide)) (by decide)
  have dys : DigB 4294967296 ys := by rw [← hys]; exact (digB_good _ (by decide) _).dig
  have eys : valB 4294967296 ys = 2 ^ s * va := by rw [← hys]; exact digB_val _ (by decide) _
  have SHA := fun A cc W k1 k2 => slice_form (nat_Shl.calls A cc ta (s : Int) ys W k1 k2 (by unfold nat_Shl.f; rw [if_pos ⟨oka, by omega, by omega⟩, Int.toNat_natCast, hva, hys])) hny
  rw [hna] at SHA
  rw [hnb] at SHB
  have hnba : nb ≤ na := by
    have h3 : 4294967296 ^ (nb - 1) < 4294967296 ^ na := by omega
    have := (Nat.pow_lt_pow_iff_right (show 1 < 4294967296 by decide)).1 h3
    omega
  have MKU := mk_u32 28 Tryz.underlying28 (na + 1) ((na : Int) + 1) (by omega) (by omega)
  have MKQ := mk_u32 29 Tryz.underlying29 (na - nb + 1) ((na : Int) - (nb : Int) + 1) (by omega) (by omega)
  have HNA := Aside0.mk hna
  have HNB := Aside0.mk hnb
  have HNY := Aside0.mk hny
  have HVA := Aside0.mk hva
  have HVB := Aside0.mk hvb
  have hxi : (nb : Int) - 1 = ((nb - 1 : Nat) : Int) := by omega
  have q1 : (0 : Int) ≤ (nb : Int) - 1 := by omega
  have q2 : (nb : Int) - 1 < (nb : Int) := by omega
  have q3 : ((nb : Int) - 1).toNat = nb - 1 := by omega
  clear hr0 hr1 hta htb hna hnb hc hva hvb hx hs hvs hys hny
  go_enter Tryz.func118, Tryz.ntmps118
  go_wp2_with (first | (go_at_call 56; (with_reducible refine (T0 _ HR0.out hc0).mono ?_); rintro e w1 ⟨Aa, ca, rfl, hca, hra, hb1⟩; have HRA := Aside0.mk hra; clear hra) | (go_at_call 56; (with_reducible refine (T1 _ (Kd.cB9 HR1.out hb1) hc1).mono ?_); rintro e w2 ⟨Ab, cb, rfl, hcb, hrb, hb2⟩; have HRB := Aside0.mk hrb; clear hrb) | (go_at_call 33; refine (CMP _ _ _ _ _ (C_of_R (Kd.rB9 HRA.out hb2) HNA.out) hca (C_of_R HRB.out HNB.out) hcb).mono ?_; rintro e w3 ⟨rfl, hb3⟩; obtain ⟨ad, hA, hcell⟩ := Kd.at_int (C_of_R (Kd.rB9 HRB.out hb3) HNB.out) ((nb - 1 : Nat) : Int) (by omega) (by rw [HNB.out]; omega); cases hA; rw [hxr, Int.toNat_natCast] at hcell) | (go_at_call 139; refine (LEAD _).mono ?_; rintro e w3' ⟨rfl, rfl⟩) | (go_at_call 140; (with_reducible refine (SHB _ _ _ (HNB.out ▸ C_of_R (Kd.rB9 HRB.out hb3) HNB.out) hcb).mono ?_); rintro e w4 ⟨Av, cv, rfl, hcv, hrv, hb4⟩; have HRV := Aside0.mk hrv; clear hrv) | (go_at_call 140; (with_reducible refine (SHA _ _ _ (HNA.out ▸ C_of_R (Kd.rB9 (Kd.rB9 (Kd.rB9 (Kd.rB9 HRA.out hb2) hb3) hb4) (bA9 (Below.refl _ _) _)) HNA.out) hca).mono ?_); rintro e w5 ⟨At, ct, rfl, hct, hrt, hb5⟩; have HRT := Aside0.mk hrt; clear hrt) | ((with_reducible refine gate_builtin (b := .copy) (xs := #[.tmp 63, .tmp 66]) rfl ?_); go_loud (refine Kd.R_copy (0 : Int) (w0 := w4) w4.heap.size rfl (.tmp 63) (.tmp 66) 28 29 88 rfl Tryz.underlying28 info22 (.slice (some ⟨w4.heap.size, 0, none⟩) (na + 1) (na + 1)) (List.replicate (na + 1) 0) ys At ny ct (fun k => k = w4.heap.size) rfl rfl (Kd.rB9 (made_R w4 (na + 1) (by omega)) hb5) (HNY.out ▸ C_of_R HRT.out HNY.out) ((bA9 (Below.refl _ _) _).trans (hb5.mono (by simp))) (Nat.le_trans (by simp) hb5.size) ?_); intro w6 hu6 hb6 hg6; have HU6 := Aside0.mk hu6; have HG6 := Aside0.mk hg6; clear hu6 hg6))
  obtain ⟨us0, hus0⟩ : ∃ us0, ys.take (min ny (List.replicate (na + 1) (0 : Int)).length) ++ (List.replicate (na + 1) (0 : Int)).drop (min ny (List.replicate (na + 1) (0 : Int)).length) = us0 := ⟨_, rfl⟩
  rw [hus0] at HU6
  have hmin : min ny (List.replicate (na + 1) (0 : Int)).length = ny := by rw [List.length_replicate]; omega
  rw [hmin, List.take_of_length_le (by rw [HNY.out]; exact Nat.le_refl _), List.drop_replicate] at hus0
  have du0 : DigB 4294967296 us0 := by rw [← hus0]; exact dys.append (DigB.zeros _ (by decide) _)
  have lu0 : us0.length = na + 1 := by rw [← hus0, List.length_append, HNY.out, List.length_replicate]; omega
  have eu0 : valB 4294967296 us0 = 2 ^ s * va := by rw [← hus0, valB_append, valB_zeros, Nat.mul_zero, Nat.add_zero, eys]
  have U6 : UAt w6 w4.heap.size us0 := uAt_of_R HU6.out lu0
  have START := Aside0.mk (divAt_start (B := 4294967296) (A0 := va) (V0 := vb) (S := 2 ^ s) (n := nb) (la := na) (by decide) (Nat.two_pow_pos _) hvalt hvbg (by omega) hnba du0 lu0 eu0)
  have hb6' : Below w.heap.size w w4 := ((hb1.trans (hb2.mono hb1.size)).trans (hb3.mono (Nat.le_trans hb1.size hb2.size))).trans (hb4.mono (Nat.le_trans hb1.size (Nat.le_trans hb2.size hb3.size)))
  have HB7 := Aside0.mk (show Below w.heap.size w (w6.alloc (.cells (madeCells #[.int .u32 0] (na - nb + 1)) 88)) from bA9 (hb6'.trans (hb6.mono hb6'.size)) _)
  have h46 : w4.heap.size + 1 ≤ w6.heap.size := by
    have h1 := hb5.size
    have h2 := HG6.out.size
    rw [World.size_alloc] at h1
    omega
  have RV6 : Kd.R (Kd.int .u32) 88 w6 w.heap.size (fun k => k ≠ w4.heap.size) (.slice Av nb cv) vs := by
    have h1 := Kd.R_elderB HRV.out w4.heap.size (Nat.le_refl _)
    have h2 := Kd.rB9 (Kd.rB9 h1 (bA9 (Below.refl _ _) _)) hb5
    have h3 := Kd.R_grown h2 HG6.out (fun k hk => by rintro e; cases e; exact hk.2 rfl)
    exact Kd.rL9 (Kd.R_mono h3 (fun k hk => hk.2)) (Nat.le_trans hb1.size (Nat.le_trans hb2.size hb3.size))
  have RV7 := Aside0.mk (Kd.R_mono (Kd.rB9 (Kd.R_elderB RV6 w6.heap.size (Nat.le_refl _)) (bA9 (Below.refl w6.heap.size w6) (.cells (madeCells #[.int .u32 0] (na - nb + 1)) 88))) (ok' := fun k => k ≠ w4.heap.size ∧ k ≠ w6.heap.size) (fun k hk => hk))
  have RQ7 := Aside0.mk (made_R w6 (na - nb + 1) (by omega))
  have U7 := Aside0.mk (show UAt (w6.alloc (.cells (madeCells #[.int .u32 0] (na - nb + 1)) 88)) w4.heap.size us0 from (Below.heap_alloc _ _ _ (by omega)).trans U6)
  have H46 := Aside0.mk h46
  have HBW := Aside0.mk hb6'.size
  clear hus0 hmin U6 RV6 h46 hb6' hb1 hb2 hb3 hb4 hb5 hb6 hcell T0 T1 CMP LEAD SHB SHA MKU MKQ
  go_loopw [14] (fun v14 wr => ∃ (i : Nat) (us qs : List Int), v14 = .int .i64 ((i : Int) - 1) ∧ i ≤ na - nb + 1 ∧ Aside0 (DivAt 4294967296 (2 ^ s * va) (2 ^ s * vb) nb (na + 1) us qs i) ∧ Aside0 (qs.length = na - nb + 1) ∧ Aside0 (UAt wr w4.heap.size us) ∧ Aside0 (Kd.R (Kd.int .u32) 88 wr w6.heap.size (fun k => k = w6.heap.size) (.slice (some ⟨w6.heap.size, 0, none⟩) (na - nb + 1) (na - nb + 1)) qs) ∧ Aside0 (Kd.R (Kd.int .u32) 88 wr w.heap.size (fun k => k ≠ w4.heap.size ∧ k ≠ w6.heap.size) (.slice Av nb cv) vs) ∧ Aside0 (Below w.heap.size w wr)) (fun v14 _ => ((intOf v14) + 1).toNat)
  case atStart => exact ⟨na - nb + 1, us0, List.replicate (na - nb + 1) 0, by (congr 1; omega), Nat.le_refl _, START, ⟨by simp⟩, U7, RQ7, RV7, HB7⟩
  case round =>
    obtain ⟨i, us, qs, rfl, hi, HD, HQL, HU, HQ, HV, HB⟩ := hrel
    by_cases h0 : i = 0
    · subst h0
      obtain ⟨dq, dr⟩ := HD.out.done (Nat.mul_pos (Nat.two_pow_pos _) (by have := Nat.pow_pos (n := nb - 1) (show 0 < 4294967296 by decide); omega))
      obtain ⟨ds1, ds2⟩ := div_shifted (A := va) (V := vb) (S := 2 ^ s) (Nat.two_pow_pos _)
      rw [ds1] at dq
      have okq : okN qs = true := okN_iff.2 ⟨by rw [HQL.out]; omega, HD.out.qdig⟩
      have oku : okN us = true := okN_iff.2 ⟨by rw [HD.out.len]; omega, HD.out.dig⟩
      have tq : trimL qs = digB 4294967296 (va / vb) := by rw [trimL_eq (by decide) HD.out.qdig, dq]
      obtain ⟨tu, htu⟩ : ∃ tu, trimL us = tu := ⟨_, rfl⟩
      have etu : valB 4294967296 tu = 2 ^ s * va % (2 ^ s * vb) := by rw [← htu, trimL_val, dr]
      have oktu := trim_ok htu oku
      have ltu := trimL_len_le us
      obtain ⟨nu, hnu⟩ : ∃ nu, tu.length = nu := ⟨_, rfl⟩
      obtain ⟨nq, hnq⟩ : ∃ nq, (digB 4294967296 (va / vb)).length = nq := ⟨_, rfl⟩
      have TQ := fun W k1 k2 => trim_call tq hnq okq (some ⟨w6.heap.size, 0, none⟩) (na - nb + 1) W k1 k2
      have TU := fun W k1 k2 => trim_call htu hnu oku (some ⟨w4.heap.size, 0, none⟩) (na + 1) W k1 k2
      have SHR := fun A cc W k1 k2 => nat_Shr.calls A cc tu (s : Int) (digB 4294967296 (va % vb)) W k1 k2 (by unfold nat_Shr.f; rw [if_pos ⟨oktu, by omega, by omega⟩, Int.toNat_natCast, etu, ds2])
      rw [HQL.out] at TQ
      rw [HD.out.len] at TU
      rw [hnu] at SHR
      have CQ := C_of_R HQ.out HQL.out
      rw [HQL.out] at CQ
      have CU : Kd.C (Kd.int .u32) wr (some ⟨w4.heap.size, 0, none⟩) (na + 1) us := by
        have h := uAt_C HU.out (by rw [HD.out.len]; omega) (j := 0) (n := na + 1) (by rw [HD.out.len]; omega)
        rw [List.drop_zero, List.take_of_length_le (by rw [HD.out.len]; exact Nat.le_refl _), HD.out.len] at h
        exact h
      have CQ := Aside0.mk CQ
      have CU := Aside0.mk CU
      have HNU := Aside0.mk hnu
      clear tq htu hnu hnq etu ltu dq dr ds1 ds2
      go_wp2_with (first | (go_at_call 56; (with_reducible refine (TQ _ CQ.out (Nat.le_refl _)).mono ?_); rintro e x1 ⟨Bq, cq, rfl, hcq, hrq, hx1⟩; have RQ := Aside0.mk hrq; clear hrq) | (go_at_call 56; (with_reducible refine (TU _ (Kd.cB9 CU.out hx1) (Nat.le_refl _)).mono ?_); rintro e x2 ⟨Bu, cu, rfl, hcu, hru, hx2⟩; have RU := Aside0.mk hru; clear hru) | (go_at_call 144; refine (SHR _ _ _ (HNU.out ▸ C_of_R RU.out HNU.out) hcu).mono ?_; rintro e x3 ⟨v3, rfl, hr3, hx3⟩))
      go_ret3
      have hy : Below wr.heap.size wr x2 := hx1.trans (hx2.mono hx1.size)
      have q5 := Kd.R_elder (Kd.rB9 RQ.out hx2) hr3 hx3
      have r5 := Kd.R_newR hr3 (Kd.rB9 RQ.out hx2)
      rw [HVA.out, HVB.out]
      refine ⟨_, _, rfl, Kd.R_mono (Kd.rL9 q5 HB.out.size) (fun k hk => hk.2), Kd.R_mono (Kd.rL9 r5 (Nat.le_trans HB.out.size hy.size)) (fun k hk => hk.2), ?_⟩
      exact (HB.out.trans (hy.mono HB.out.size)).trans (hx3.mono (Nat.le_trans HB.out.size hy.size))
    · obtain ⟨j, rfl⟩ : ∃ j, i = j + 1 := ⟨i - 1, by omega⟩
      have hd : decide ((0 : Int) ≤ (j : Int)) = true := decide_eq_true (by omega)
      have ej : ((j + 1 : Nat) : Int) - 1 = (j : Int) := by omega
      rw [ej]
      have hjn : j + nb < na + 1 := by omega
      obtain ⟨g1, g2, g3⟩ := HD.out.part (by decide) hVlt hjn
      have hPl : ((us.drop j).take (nb + 1)).length = nb + 1 := by simp [HD.out.len]; omega
      have hv1 : 1 ≤ limbN vs (nb - 1) := by
        rcases Nat.eq_zero_or_pos (limbN vs (nb - 1)) with hz | hz
        · exfalso; apply gvs.can
          rw [List.getLast?_eq_getElem?, hvsn, List.getElem?_eq_getElem (by omega)]
          have := gvs.dig vs[nb - 1] (List.getElem_mem _)
          simp only [limbN, List.getD_eq_getElem?_getD, List.getElem?_eq_getElem (show nb - 1 < vs.length by omega), Option.getD_some] at hz
          congr 1; omega
        · exact hz
      obtain ⟨kg, g, hg, gk⟩ := guess_f (u := (us.drop j).take (nb + 1)) (v := vs) (n := nb) hvsn hPl h2 (by omega) ((HD.out.dig.drop j).take _) gvs.dig hv1 (by rw [g1, evs]; exact g2)
      rw [evs] at gk
      have GUESS := fun W k1 k2 => quo_guess.calls kg (some ⟨w4.heap.size, j, none⟩) (na + 1 - j) ((us.drop j).take (nb + 1)) Av cv vs (g : Int) W k1 (by rw [hPl]; omega) k2 (by rw [hvsn]; exact hcv) hg
      have CP := uAt_C HU.out (by rw [HD.out.len]; omega) (j := j) (n := nb + 1) (by rw [HD.out.len]; omega)
      rw [hPl] at GUESS CP
      rw [hvsn] at GUESS
      have CV : Kd.C (Kd.int .u32) wr Av nb vs := hvsn ▸ C_of_R HV.out hvsn
      have hjl : j + nb < us.length := by rw [HD.out.len]; exact hjn
      have hus := HD.out.dig us[j + nb] (List.getElem_mem hjl)
      obtain ⟨y, hy⟩ : ∃ y : Nat, us[j + nb] = (y : Int) := ⟨us[j + nb].toNat, by omega⟩
      have CVG : ∀ W W', Kd.R (Kd.int .u32) 88 W w.heap.size (fun k => k ≠ w4.heap.size ∧ k ≠ w6.heap.size) (.slice Av nb cv) vs → W.grownBy W' (some w4.heap.size) → Kd.R (Kd.int .u32) 88 W' w.heap.size (fun k => k ≠ w4.heap.size ∧ k ≠ w6.heap.size) (.slice Av nb cv) vs := fun W W' hR hG => Kd.R_grown hR hG (fun k hk => by rintro e; cases e; exact hk.1 rfl)
      have TAKE := fun W (hU : UAt W w4.heap.size us) (hR : Kd.R (Kd.int .u32) 88 W w.heap.size (fun k => k ≠ w4.heap.size ∧ k ≠ w6.heap.size) (.slice Av nb cv) vs) => take_calls w4.heap.size j (na + 1 - j) nb us Av cv vs g W hvsn hU HD.out.dig gvs.dig gk.lt hjl (by omega) hcv (by rw [HD.out.len]; omega) (fun W' hG => hvsn ▸ C_of_R (CVG W W' hR hG) hvsn) y hy
      have p1 : (0 : Int) ≤ (j : Int) := by omega
      have p2 : (j : Int) ≤ (j : Int) + (nb : Int) + 1 := by omega
      have p3 : (j : Int) + (nb : Int) + 1 ≤ (na : Int) + 1 := by omega
      have p4 : ¬ (na + 1 = j) := by omega
      have p5 : ((j : Int) + (nb : Int) + 1 - (j : Int)).toNat = nb + 1 := by omega
      have p8 : (j : Int) < ((na - nb + 1 : Nat) : Int) := by omega
      have hne : w4.heap.size ≠ w6.heap.size := by have := H46.out; omega
      have hV0 : 0 < 2 ^ s * vb := by have := Nat.pow_pos (n := nb - 1) (show 0 < 4294967296 by decide); omega
      have hgw : IntKind.u32.wrap (g : Int) = (g : Int) := by have := gk.lt; rw [IntKind.wrap_u32']; omega
      have p7 : j + nb + 1 - j = nb + 1 := by omega
      have p6 : ((na : Int) + 1 - (j : Int)).toNat = na + 1 - j := by omega
      have CP := Aside0.mk CP
      have CV := Aside0.mk CV
      by_cases hb : y < (takeP g us vs j nb).2.1 + (takeP g us vs j nb).2.2
      · obtain ⟨d, hd2⟩ : ∃ d, (y + 4294967296 - (takeP g us vs j nb).2.1 - (takeP g us vs j nb).2.2) % 4294967296 = d := ⟨_, rfl⟩
        obtain ⟨us1, hus1⟩ : ∃ us1, midU us ((takeP g us vs j nb).1 ++ [(d : Int)]) j (nb + 1) = us1 := ⟨_, rfl⟩
        obtain ⟨r1, r2, r3, r4, r5⟩ := round_b HD.out hVlt hV0 hjn (by rw [HQL.out]; omega) hvsn gvs.dig evs hy gk hb hd2 hus1.symm
        rw [show decide (y < (takeP g us vs j nb).2.1 + (takeP g us vs j nb).2.2) = true from decide_eq_true hb, hd2, hus1] at TAKE
        have hjl1 : j + nb < us1.length := by rw [r2]; exact hjn
        rw [List.getElem?_eq_getElem hjl1] at r4
        have BACK := fun W (hU : UAt W w4.heap.size us1) (hR : Kd.R (Kd.int .u32) 88 W w.heap.size (fun k => k ≠ w4.heap.size ∧ k ≠ w6.heap.size) (.slice Av nb cv) vs) => back_calls w4.heap.size j (na + 1 - j) nb us1 Av cv vs W hvsn hU r3 gvs.dig hjl1 (by omega) hcv (by rw [r2]; omega) (fun W' hG => hvsn ▸ C_of_R (CVG W W' hR hG) hvsn) d (Option.some.inj r4)
        obtain ⟨g', rfl⟩ : ∃ g', g = g' + 1 := ⟨g - 1, by omega⟩
        rw [Nat.add_sub_cancel] at r5
        have hgl := gk.lt
        have hgs : IntKind.u64.wrap (((g' + 1 : Nat) : Int) - 1) = (g' : Int) := by rw [IntKind.wrap_u64]; omega
        have hgs2 : IntKind.u64.wrap ((g' : Int) + 1 - 1) = (g' : Int) := by rw [IntKind.wrap_u64]; omega
        have hgs3 : IntKind.u64.wrap (g' : Int) = (g' : Int) := by rw [IntKind.wrap_u64]; omega
        have hgw' : IntKind.u32.wrap (g' : Int) = (g' : Int) := by rw [IntKind.wrap_u32']; omega
        have R5 := Aside0.mk r5
        clear hb gk r5 hd2 hus1 r4 r3 hgw
        go_wp2_with (first | (go_at_call 141; go_loud (refine (GUESS _ CP.out CV.out).mono ?_); rintro e x1 ⟨rfl, ⟨q, rfl⟩⟩) | (go_at_call 142; go_loud (refine (TAKE (wr.drewN q) HU.out (Kd.rN9 HV.out q)).mono ?_); rintro e x2 ⟨rfl, hu2, hg2⟩; have HU2 := Aside0.mk hu2; have HG2 := Aside0.mk hg2; clear hu2 hg2) | (go_at_call 143; go_loud (refine (BACK x2 HU2.out (CVG _ _ (Kd.rN9 HV.out q) HG2.out)).mono ?_); rintro e x3 ⟨rfl, hu3, hg3⟩; have hq2 := Kd.R_grown (Kd.R_grown (Kd.rN9 HQ.out q) HG2.out (fun k hk => by rintro e; cases e; exact absurd hk hne)) hg3 (fun k hk => by rintro e; cases e; exact absurd hk hne); obtain ⟨hc6, hf6⟩ := Kd.R_celln 0 hq2 (j : Int) p1 p8; rw [Int.toNat_natCast] at hc6 hf6; have HU3 := Aside0.mk hu3; have HG3 := Aside0.mk hg3; have HQ2 := Aside0.mk hq2; clear hu3 hg3 hq2))
        go_roundw
        case rel =>
          refine ⟨j, _, _, by first | rfl | (rw [show wrap64 ((j : Int) - 1) = (j : Int) - 1 by unfold wrap64; omega]), by omega, R5, ⟨by rw [List.length_set]; exact HQL.out⟩, ⟨(Below.heap_setCell x3 ⟨w6.heap.size, j, none⟩ _ w4.heap.size hne).trans HU3.out⟩, ⟨Kd.R_putn HQ2.out (j : Int) (g' : Int)⟩, ⟨Kd.R_far (p := ⟨w6.heap.size, j, none⟩) (CVG _ _ (CVG _ _ (Kd.rN9 HV.out q) HG2.out) HG3.out) (fun k hk => hk.2) _⟩, ⟨?_⟩⟩
          have hbw : Below w.heap.size w (wr.drewN q) := bN9 HB.out q
          have hb2 := hbw.grown HG2.out HB.out.size (fun k hk => by cases hk; exact HBW.out)
          exact (hb2.grown HG3.out hb2.size (fun k hk => by cases hk; exact HBW.out)).setCell (p := ⟨w6.heap.size, j, none⟩) (Nat.le_trans HBW.out (by have := H46.out; show w4.heap.size ≤ w6.heap.size; omega)) _
        case measure => simp [intOf]; try omega
      · have HBO := Aside0.mk hb
        rw [show decide (y < (takeP g us vs j nb).2.1 + (takeP g us vs j nb).2.2) = false from decide_eq_false hb] at TAKE
        have GK := Aside0.mk gk
        clear hb gk
        go_wp2_with (first | (go_at_call 141; go_loud (refine (GUESS _ CP.out CV.out).mono ?_); rintro e x1 ⟨rfl, ⟨q, rfl⟩⟩) | (go_at_call 142; go_loud (refine (TAKE (wr.drewN q) HU.out (Kd.rN9 HV.out q)).mono ?_); rintro e x2 ⟨rfl, hu2, hg2⟩; have hq2 := Kd.R_grown (Kd.rN9 HQ.out q) hg2 (fun k hk => by rintro e; cases e; exact absurd hk hne); obtain ⟨hc6, hf6⟩ := Kd.R_celln 0 hq2 (j : Int) p1 p8; rw [Int.toNat_natCast] at hc6 hf6; have HU2 := Aside0.mk hu2; have HG2 := Aside0.mk hg2; have HQ2 := Aside0.mk hq2; clear hu2 hg2 hq2))
        go_roundw
        case rel =>
          refine ⟨j, _, _, by first | rfl | (rw [show wrap64 ((j : Int) - 1) = (j : Int) - 1 by unfold wrap64; omega]), by omega, ⟨round_a HD.out hVlt hV0 hjn (by rw [HQL.out]; omega) hvsn gvs.dig evs hy GK.out HBO.out⟩, ⟨by rw [List.length_set]; exact HQL.out⟩, ⟨(Below.heap_setCell x2 ⟨w6.heap.size, j, none⟩ _ w4.heap.size hne).trans HU2.out⟩, ⟨Kd.R_putn HQ2.out (j : Int) (g : Int)⟩, ⟨Kd.R_far (p := ⟨w6.heap.size, j, none⟩) (CVG _ _ (Kd.rN9 HV.out q) HG2.out) (fun k hk => hk.2) _⟩, ⟨?_⟩⟩
          exact ((bN9 HB.out q).grown HG2.out HB.out.size (fun k hk => by cases hk; exact HBW.out)).setCell (p := ⟨w6.heap.size, j, none⟩) (Nat.le_trans HBW.out (by have := H46.out; show w4.heap.size ≤ w6.heap.size; omega)) _
        case measure => simp [intOf]; try omega
end
theorem quo_DivMod.calls (A0 : Option Addr) (c0 : Nat) (l0 : List Int) (A1 : Option Addr) (c1 : Nat) (l1 : List Int) (r1 r2 : List Int) (r3 : Int) (w : World) (hr0 : Kd.C (Kd.int .u32) w A0 l0.length l0) (hc0 : l0.length ≤ c0) (hr1 : Kd.C (Kd.int .u32) w A1 l1.length l1) (hc1 : l1.length ≤ c1) (h : quo_DivMod.f l0 l1 = some (r1, r2, r3)) :
    Calls Tryz.prog 118 #[.slice A0 l0.length c0, .slice A1 l1.length c1] w fun e w' => ∃ v0_ v1_ : Value, e = .returned (.tuple #[v0_, v1_, .int .i64 r3]) ∧ Kd.R (Kd.int .u32) 88 w' w.heap.size (fun k_ => some k_ ≠ (v1_ : Value).ownBlock) v0_ r1 ∧ Kd.R (Kd.int .u32) 88 w' w.heap.size (fun k_ => some k_ ≠ (v0_ : Value).ownBlock) v1_ r2 ∧ Below w.heap.size w w' := by
  unfold quo_DivMod.f at h
  by_cases hg : okN l0 = true ∧ okN l1 = true ∧ l0.length ≤ 1048000 ∧ l1.length ≤ 1048000
  · rw [if_pos hg] at h
    obtain ⟨ok0, ok1, n0, n1⟩ := hg
    have d0 := (okN_iff.1 ok0).2
    have d1 := (okN_iff.1 ok1).2
    have g0 : GoodB 4294967296 (trimL l0) := trimL_good d0
    have g1 : GoodB 4294967296 (trimL l1) := trimL_good d1
    have e0 := trimL_val 4294967296 l0
    have e1 := trimL_val 4294967296 l1
    by_cases hz : valB 4294967296 l1 = 0
    · rw [if_pos hz] at h
      obtain ⟨rfl, rfl, rfl⟩ : [] = r1 ∧ [] = r2 ∧ 17 = r3 := by simpa using h
      have ht : trimL l1 = [] := g1.zero (by rw [e1, hz])
      exact div_zero_calls A0 c0 l0 A1 c1 l1 w hr0 hc0 hr1 hc1 ok0 ok1 (trimL l0) (trimL l1) _ _ rfl rfl rfl rfl (by rw [ht]; rfl)
    · rw [if_neg hz] at h
      obtain ⟨rfl, rfl, rfl⟩ : digB 4294967296 (valB 4294967296 l0 / valB 4294967296 l1) = r1 ∧ digB 4294967296 (valB 4294967296 l0 % valB 4294967296 l1) = r2 ∧ 0 = r3 := by simpa using h
      have hnb : (trimL l1).length ≠ 0 := fun hc => by
        have := List.eq_nil_of_length_eq_zero hc
        rw [this, valB_nil] at e1
        exact hz e1.symm
      rw [← e0, ← e1]
      by_cases hlt : valB 4294967296 (trimL l0) < valB 4294967296 (trimL l1)
      · rw [Nat.div_eq_of_lt hlt, Nat.mod_eq_of_lt hlt, digB_zero _ (by decide), ← g0.eq (by decide)]
        exact div_less_calls A0 c0 l0 A1 c1 l1 w hr0 hc0 hr1 hc1 ok0 ok1 (trimL l0) (trimL l1) _ _ rfl rfl rfl rfl hnb hlt
      · by_cases h1 : (trimL l1).length = 1
        · exact div_one_calls A0 c0 l0 A1 c1 l1 w hr0 hc0 hr1 hc1 ok0 ok1 (trimL l0) (trimL l1) _ _ rfl rfl rfl rfl h1 (Nat.le_of_not_lt hlt) (by rw [e1]; exact hz)
        · exact div_main_calls A0 c0 l0 A1 c1 l1 w hr0 hc0 hr1 hc1 ok0 ok1 (trimL l0) (trimL l1) _ _ rfl rfl rfl rfl (by omega) (Nat.le_of_not_lt hlt) g1.can g0.can (Nat.le_trans (trimL_len_le l0) n0)
  · rw [if_neg hg] at h; cases h
#print axioms quo_DivMod.calls
end Go.Proofs.YtibaoacjjcgjlaaGreatDoor.Print

namespace Go.Proofs.YtibaoacjjcgjlaaGreatDoor.Print
open Go.RowKit Go.Proofs.YtibaoacjjcgjlaaGreatDoorW.PrintWords Go.Proofs.YtibaoacjjcgjlaaGreatDoorW.PrintLast Go.Proofs.YtibaoacjjcgjlaaGreatDoorW.PrintMore
attribute [local go_sem] max2_int min2_int max_two min_two max_three min_three max_four min_four   -- for this text's walks alone
set_option linter.unusedVariables false
set_option linter.unusedSimpArgs false
def quo_Gcd.l0 : Nat → List Int → List Int → Option (List Int)
 | 0, _, _ => none
 | k + 1, x0, x1 => if (x1.length : Int) > 0 then ((quo_DivMod.f x0 x1).bind fun bt107 => (quo_Gcd.l0 k x1 bt107.2.1)) else (some x0)
def quo_Gcd.f (k : Nat) (l0 : List Int) (l1 : List Int) : Option (List Int) := (nat_Trim.f l0).bind fun t101 => ((nat_Trim.f l1).bind fun t104 => (quo_Gcd.l0 k t101 t104))
set_option maxHeartbeats 8000000 in
set_option maxRecDepth 100000 in
theorem quo_Gcd.calls (k : Nat) (A0 : Option Addr) (c0 : Nat) (l0 : List Int) (A1 : Option Addr) (c1 : Nat) (l1 : List Int) (r : List Int) (w : World) (hr0 : Kd.C (Kd.int .u32) w A0 l0.length l0) (hc0 : l0.length ≤ c0) (hr1 : Kd.C (Kd.int .u32) w A1 l1.length l1) (hc1 : l1.length ≤ c1) (h : quo_Gcd.f k l0 l1 = some r) :
  Calls Tryz.prog 89 #[.slice A0 l0.length c0, .slice A1 l1.length c1] w fun e w' => ∃ v0_ : Value, e = .returned (v0_) ∧ Kd.R (Kd.int .u32) 88 w' w.heap.size (fun _ => True) v0_ r ∧ Below w.heap.size w w' := by
 have HR0 := Aside0.mk hr0
 have HC0 := Aside0.mk hc0
 clear hr0 hc0
 have HR1 := Aside0.mk hr1
 have HC1 := Aside0.mk hc1
 clear hr1 hc1
 have HB := Aside0.mk (Below.refl w.heap.size w)
 have H : ((nat_Trim.f l0).bind fun t101 => ((nat_Trim.f l1).bind fun t104 => (quo_Gcd.l0 k t101 t104))) = some r := h
 clear h
 replace H := Option.bind_eq_some_iff.mp H
 obtain ⟨t101, A30, H⟩ := H
 (try dsimp only at H)
 have A3 := Aside0.mk A30
 clear A30
 replace H := Option.bind_eq_some_iff.mp H
 obtain ⟨t104, A40, H⟩ := H
 replace H : (quo_Gcd.l0 k t101 t104) = some r := H
 have A4 := Aside0.mk A40
 clear A40
 have H' := Aside0.mk H
 clear H
 go_enter Tryz.func89, Tryz.ntmps89
 go_wp2_with (first | ((with_reducible refine gC9 (f := 56) rfl ?_); refine goesL_ (some 9) rfl rfl Tryz.func56 (by kernel_rfl) rfl #[.slice A0 l0.length c0] rfl (by (try simp only [List.map_toArray, List.map_cons, List.map_nil]); first | done | rfl | (simp only [List.length_drop, List.length_take]; rfl)) ?_; (with_reducible refine (nat_Trim.calls _ _ l0 t101 _ ?side1 ?side2 A3.out).mono ?_); (case side1 => repeat (first | exact HR0.out | (with_reducible refine Kd.cA9 ?_ _) | (with_reducible refine Kd.cN9 ?_ _) | (with_reducible refine Kd.cD9 ?_))); (case side2 => exact HC0.out); rintro e w5 ⟨v102, rfl, ho0, hb⟩; refine ⟨_, rfl, ?_⟩; have n0_ := Aside0.mk (Kd.rL9 ho0 (bZ9 (by repeat (first | (with_reducible first | exact HB.out | apply bA9 | apply bN9 | apply bD9) | exact HB.out)))); have n1_ := Aside0.mk (bT9 (by repeat (first | (with_reducible first | exact HB.out | apply bA9 | apply bN9 | apply bD9) | exact HB.out)) hb); clear HB; have HO103 := n0_; have HB := n1_; clear n0_ n1_; (try clear hb); (try clear hb2); (try clear hk); (try clear hi); (try clear ho0)) | ((with_reducible refine gC9 (f := 56) rfl ?_); refine goesL_ (some 11) rfl rfl Tryz.func56 (by kernel_rfl) rfl #[.slice A1 l1.length c1] rfl (by (try simp only [List.map_toArray, List.map_cons, List.map_nil]); first | done | rfl | (simp only [List.length_drop, List.length_take]; rfl)) ?_; (with_reducible refine (nat_Trim.calls _ _ l1 t104 _ ?side1 ?side2 A4.out).mono ?_); (case side1 => repeat (first | exact (Kd.cB9 HR1.out HB.out) | (with_reducible refine Kd.cA9 ?_ _) | (with_reducible refine Kd.cN9 ?_ _) | (with_reducible refine Kd.cD9 ?_))); (case side2 => exact HC1.out); rintro e w6 ⟨v105, rfl, ho0, hb⟩; refine ⟨_, rfl, ?_⟩; have n0_ := Aside0.mk (Kd.R_elder' (by (with_reducible repeat (first | apply Kd.rA9 | apply Kd.rN9 | apply Kd.rD9)); exact HO103.out) (Kd.R_base ho0) hb); have n1_ := Aside0.mk (Kd.rL9 (Kd.R_new' ho0 (Kd.R_lt (by (with_reducible repeat (first | apply Kd.rA9 | apply Kd.rN9 | apply Kd.rD9)); exact HO103.out))) (bZ9 (by repeat (first | (with_reducible first | exact HB.out | apply bA9 | apply bN9 | apply bD9) | exact HB.out)))); have n2_ := Aside0.mk (bT9 (by repeat (first | (with_reducible first | exact HB.out | apply bA9 | apply bN9 | apply bD9) | exact HB.out)) hb); clear HO103; clear HB; have HO103 := n0_; have HO106 := n1_; have HB := n2_; clear n0_ n1_ n2_; (try clear hb); (try clear hb2); (try clear hk); (try clear hi); (try clear ho0)))
 go_loopg [0, 1] k (fun kq v0 v1 w' => ∃ (x0_1 : List Int) (x1_1 : List Int), Aside0 (quo_Gcd.l0 kq x0_1 x1_1 = some r) ∧ Aside0 (kq ≤ k) ∧ Aside0 (Kd.R (Kd.int .u32) 88 w' w.heap.size (fun k_ => some k_ ≠ (v1 : Value).ownBlock) v0 x0_1) ∧ Aside0 (Kd.R (Kd.int .u32) 88 w' w.heap.size (fun k_ => some k_ ≠ (v0 : Value).ownBlock) v1 x1_1) ∧ Aside0 (Below w.heap.size w w'))
 case atStart => exact ⟨(t101), (t104), H', ⟨Nat.le_refl _⟩, ⟨by (with_reducible repeat (first | apply Kd.rA9 | apply Kd.rN9 | apply Kd.rD9)); exact Kd.R_mono HO103.out (fun _ hk => hk.2)⟩, ⟨by (with_reducible repeat (first | apply Kd.rA9 | apply Kd.rN9 | apply Kd.rD9)); exact Kd.R_mono HO106.out (fun _ hk => hk.2)⟩, ⟨by repeat (first | (with_reducible first | exact HB.out | apply bA9 | apply bN9 | apply bD9) | exact HB.out)⟩⟩
 case round =>
  clear H'
  try clear c1
  try clear p2
  try clear c5
  obtain ⟨x0_1, x1_1, HA, HK1, HO_0, HO_1, HB⟩ := hrel
  cases gk with
  | zero => exact absurd HA.out (by simp [quo_Gcd.l0])
  | succ k1 =>
   have H := HA.out
   clear HA
   simp only [quo_Gcd.l0] at H
   by_cases c7 : (x1_1.length : Int) > 0
   ·rw [if_pos c7] at H
    have c7b0 : decide (0 < (x1_1.length : Int)) = true := decide_eq_true c7
    have c7b1 : decide (0 < x1_1.length) = true := decide_eq_true (by omega)
    clear c7
    replace H := Option.bind_eq_some_iff.mp H
    obtain ⟨⟨t107, t108, t109⟩, A80, H⟩ := H
    replace H : (quo_Gcd.l0 k1 x1_1 t108) = some r := H
    have A8 := Aside0.mk A80
    clear A80
    have H' := Aside0.mk H
    clear H
    obtain ⟨Ao9, co9, eo9⟩ := Kd.rS9 HO_1.out
    subst eo9
    obtain ⟨Ao10, co10, eo10⟩ := Kd.rS9 HO_0.out
    subst eo10
    go_wp2_with (first | ((with_reducible refine gC9 (f := 118) rfl ?_); refine goesL_ (some 18) rfl rfl Tryz.func118 (by kernel_rfl) rfl #[.slice Ao10 x0_1.length co10, .slice Ao9 x1_1.length co9] rfl (by (try simp only [List.map_toArray, List.map_cons, List.map_nil]); first | done | rfl | (simp only [List.length_drop, List.length_take]; rfl)) ?_; (with_reducible refine (quo_DivMod.calls _ _ x0_1 _ _ x1_1 t107 t108 t109 _ ?side1 ?side2 ?side3 ?side4 A8.out).mono ?_); (case side1 => repeat (first | exact (Kd.rR9 HO_0.out).2.2 | (with_reducible refine Kd.cA9 ?_ _) | (with_reducible refine Kd.cN9 ?_ _) | (with_reducible refine Kd.cD9 ?_))); (case side2 => exact (Kd.rR9 HO_0.out).2.1); (case side3 => repeat (first | exact (Kd.rR9 HO_1.out).2.2 | (with_reducible refine Kd.cA9 ?_ _) | (with_reducible refine Kd.cN9 ?_ _) | (with_reducible refine Kd.cD9 ?_))); (case side4 => exact (Kd.rR9 HO_1.out).2.1); rintro e w11 ⟨v110, v112, rfl, ho0, ho1, hb⟩; refine ⟨_, rfl, ?_⟩; have n0_ := Aside0.mk (Kd.R_mono (Kd.R_told (Kd.R_told (Kd.R_old (by (with_reducible repeat (first | apply Kd.rA9 | apply Kd.rN9 | apply Kd.rD9)); exact HO_0.out) hb) (Kd.R_base ho0)) (Kd.R_base ho1)) (fun _ h_ => h_.1)); have n1_ := Aside0.mk (Kd.R_mono (Kd.R_told (Kd.R_told (Kd.R_old (by (with_reducible repeat (first | apply Kd.rA9 | apply Kd.rN9 | apply Kd.rD9)); exact HO_1.out) hb) (Kd.R_base ho0)) (Kd.R_base ho1)) (fun _ h_ => h_.1)); have n2_ := Aside0.mk (Kd.rL9 (Kd.R_new' (Kd.R_new' ho0 (Kd.R_lt (by (with_reducible repeat (first | apply Kd.rA9 | apply Kd.rN9 | apply Kd.rD9)); exact HO_0.out))) (Kd.R_lt (by (with_reducible repeat (first | apply Kd.rA9 | apply Kd.rN9 | apply Kd.rD9)); exact HO_1.out))) (bZ9 (by repeat (first | (with_reducible first | exact HB.out | apply bA9 | apply bN9 | apply bD9) | exact HB.out)))); have n3_ := Aside0.mk (Kd.rL9 (Kd.R_new' (Kd.R_new' ho1 (Kd.R_lt (by (with_reducible repeat (first | apply Kd.rA9 | apply Kd.rN9 | apply Kd.rD9)); exact HO_0.out))) (Kd.R_lt (by (with_reducible repeat (first | apply Kd.rA9 | apply Kd.rN9 | apply Kd.rD9)); exact HO_1.out))) (bZ9 (by repeat (first | (with_reducible first | exact HB.out | apply bA9 | apply bN9 | apply bD9) | exact HB.out)))); have n4_ := Aside0.mk (bT9 (by repeat (first | (with_reducible first | exact HB.out | apply bA9 | apply bN9 | apply bD9) | exact HB.out)) hb); clear HO_0; clear HO_1; clear HB; have HO_0 := n0_; have HO_1 := n1_; have HO111 := n2_; have HO113 := n3_; have HB := n4_; clear n0_ n1_ n2_ n3_ n4_; (try clear hb); (try clear hb2); (try clear hk); (try clear hi); (try clear ho0); (try clear ho1)))
    go_roundg k1
    case measure => have := HK1.out; omega
    case rel => exact ⟨(x1_1), (t108), H', ⟨by have := HK1.out; omega⟩, ⟨by (with_reducible repeat (first | apply Kd.rA9 | apply Kd.rN9 | apply Kd.rD9)); exact Kd.R_mono HO_1.out (fun _ hk => hk.2)⟩, ⟨by (with_reducible repeat (first | apply Kd.rA9 | apply Kd.rN9 | apply Kd.rD9)); exact Kd.R_mono HO113.out (fun _ hk => hk.2)⟩, ⟨by repeat (first | (with_reducible first | exact HB.out | apply bA9 | apply bN9 | apply bD9) | exact HB.out)⟩⟩
   ·rw [if_neg c7] at H
    have c7b0 : decide (0 < (x1_1.length : Int)) = false := decide_eq_false c7
    have c7b1 : decide (0 < x1_1.length) = false := decide_eq_false (by omega)
    clear c7
    obtain rfl := Option.some.inj H
    obtain ⟨Ao12, co12, eo12⟩ := Kd.rS9 HO_1.out
    subst eo12
    go_wp2
    go_ret
    exact ⟨_, by first | rfl | (simp [eN9, eS9] <;> rfl) | (simp [*, eN9, eS9] <;> rfl), by (with_reducible repeat (first | apply Kd.rA9 | apply Kd.rN9 | apply Kd.rD9)); exact Kd.R_mono HO_0.out (fun _ hk => trivial), by repeat (first | (with_reducible first | exact HB.out | apply bA9 | apply bN9 | apply bD9) | exact HB.out)⟩
def rat_by.f (l0 : List Int) (l1 : List Int) : Option (List Int) := (quo_DivMod.f l0 l1).bind fun bt114 => (some bt114.1)
set_option maxHeartbeats 8000000 in
set_option maxRecDepth 100000 in
theorem rat_by.calls (A0 : Option Addr) (c0 : Nat) (l0 : List Int) (A1 : Option Addr) (c1 : Nat) (l1 : List Int) (r : List Int) (w : World) (hr0 : Kd.C (Kd.int .u32) w A0 l0.length l0) (hc0 : l0.length ≤ c0) (hr1 : Kd.C (Kd.int .u32) w A1 l1.length l1) (hc1 : l1.length ≤ c1) (h : rat_by.f l0 l1 = some r) :
  Calls Tryz.prog 91 #[.slice A0 l0.length c0, .slice A1 l1.length c1] w fun e w' => ∃ v0_ : Value, e = .returned (v0_) ∧ Kd.R (Kd.int .u32) 88 w' w.heap.size (fun _ => True) v0_ r ∧ Below w.heap.size w w' := by
 have HR0 := Aside0.mk hr0
 have HC0 := Aside0.mk hc0
 clear hr0 hc0
 have HR1 := Aside0.mk hr1
 have HC1 := Aside0.mk hc1
 clear hr1 hc1
 have HB := Aside0.mk (Below.refl w.heap.size w)
 have H : ((quo_DivMod.f l0 l1).bind fun bt114 => (some bt114.1)) = some r := h
 clear h
 replace H := Option.bind_eq_some_iff.mp H
 obtain ⟨⟨t114, t115, t116⟩, A30, H⟩ := H
 replace H : (some t114) = some r := H
 have A3 := Aside0.mk A30
 clear A30
 obtain rfl := Option.some.inj H
 go_enter Tryz.func91, Tryz.ntmps91
 go_wp2_with (first | ((with_reducible refine gC9 (f := 118) rfl ?_); refine goesL_ (some 11) rfl rfl Tryz.func118 (by kernel_rfl) rfl #[.slice A0 l0.length c0, .slice A1 l1.length c1] rfl (by (try simp only [List.map_toArray, List.map_cons, List.map_nil]); first | done | rfl | (simp only [List.length_drop, List.length_take]; rfl)) ?_; (with_reducible refine (quo_DivMod.calls _ _ l0 _ _ l1 t114 t115 t116 _ ?side1 ?side2 ?side3 ?side4 A3.out).mono ?_); (case side1 => repeat (first | exact HR0.out | (with_reducible refine Kd.cA9 ?_ _) | (with_reducible refine Kd.cN9 ?_ _) | (with_reducible refine Kd.cD9 ?_))); (case side2 => exact HC0.out); (case side3 => repeat (first | exact HR1.out | (with_reducible refine Kd.cA9 ?_ _) | (with_reducible refine Kd.cN9 ?_ _) | (with_reducible refine Kd.cD9 ?_))); (case side4 => exact HC1.out); rintro e w4 ⟨v117, v119, rfl, ho0, ho1, hb⟩; refine ⟨_, rfl, ?_⟩; have n0_ := Aside0.mk (Kd.rL9 ho0 (bZ9 (by repeat (first | (with_reducible first | exact HB.out | apply bA9 | apply bN9 | apply bD9) | exact HB.out)))); have n1_ := Aside0.mk (Kd.rL9 ho1 (bZ9 (by repeat (first | (with_reducible first | exact HB.out | apply bA9 | apply bN9 | apply bD9) | exact HB.out)))); have n2_ := Aside0.mk (bT9 (by repeat (first | (with_reducible first | exact HB.out | apply bA9 | apply bN9 | apply bD9) | exact HB.out)) hb); clear HB; have HO118 := n0_; have HO120 := n1_; have HB := n2_; clear n0_ n1_ n2_; (try clear hb); (try clear hb2); (try clear hk); (try clear hi); (try clear ho0); (try clear ho1)))
 go_ret
 exact ⟨_, by first | rfl | (simp [eN9, eS9] <;> rfl) | (simp [*, eN9, eS9] <;> rfl), by (with_reducible repeat (first | apply Kd.rA9 | apply Kd.rN9 | apply Kd.rD9)); exact Kd.R_mono HO118.out (fun _ hk => trivial), by repeat (first | (with_reducible first | exact HB.out | apply bA9 | apply bN9 | apply bD9) | exact HB.out)⟩
def rat_one.f  : Option (List Int) := (nat_Of.f 1).bind fun t121 => (some t121)
set_option maxHeartbeats 8000000 in
set_option maxRecDepth 100000 in
theorem rat_one.calls  (r : List Int) (w : World) (h : rat_one.f  = some r) :
  Calls Tryz.prog 55 #[] w fun e w' => ∃ v0_ : Value, e = .returned (v0_) ∧ Kd.R (Kd.int .u32) 88 w' w.heap.size (fun _ => True) v0_ r ∧ Below w.heap.size w w' := by
 have HB := Aside0.mk (Below.refl w.heap.size w)
 have H : ((nat_Of.f 1).bind fun t121 => (some t121)) = some r := h
 clear h
 replace H := Option.bind_eq_some_iff.mp H
 obtain ⟨t121, A10, H⟩ := H
 replace H : (some t121) = some r := H
 have A1 := Aside0.mk A10
 clear A10
 obtain rfl := Option.some.inj H
 go_enter Tryz.func55, Tryz.ntmps55
 go_wp2_with (first | ((with_reducible refine gC9 (f := 34) rfl ?_); refine goesL_ (some 1) rfl rfl Tryz.func34 (by kernel_rfl) rfl #[.int .u64 1] rfl (by (try simp only [List.map_toArray, List.map_cons, List.map_nil]); first | done | rfl | (simp only [List.length_drop, List.length_take]; rfl)) ?_; (with_reducible refine (nat_Of.calls 1 t121 _ A1.out).mono ?_); rintro e w2 ⟨v122, rfl, ho0, hb⟩; refine ⟨_, rfl, ?_⟩; have n0_ := Aside0.mk (Kd.rL9 ho0 (bZ9 (by repeat (first | (with_reducible first | exact HB.out | apply bA9 | apply bN9 | apply bD9) | exact HB.out)))); have n1_ := Aside0.mk (bT9 (by repeat (first | (with_reducible first | exact HB.out | apply bA9 | apply bN9 | apply bD9) | exact HB.out)) hb); clear HB; have HO123 := n0_; have HB := n1_; clear n0_ n1_; (try clear hb); (try clear hb2); (try clear hk); (try clear hi); (try clear ho0)))
 go_ret
 exact ⟨_, by first | rfl | (simp [eN9, eS9] <;> rfl) | (simp [*, eN9, eS9] <;> rfl), by (with_reducible repeat (first | apply Kd.rA9 | apply Kd.rN9 | apply Kd.rD9)); exact HO123.out, by repeat (first | (with_reducible first | exact HB.out | apply bA9 | apply bN9 | apply bD9) | exact HB.out)⟩
end Go.Proofs.YtibaoacjjcgjlaaGreatDoor.Print

namespace Go.Proofs
open Go.RowKit Go.Shelf
shelf_lay Lays.n128 Nm 128 at Tryz as Tryz.layLen32
end Go.Proofs
namespace Go.Proofs.YtibaoacjjcgjlaaGreatDoor.Print
open Go.RowKit Go.Proofs.YtibaoacjjcgjlaaGreatDoorW.PrintWords Go.Proofs.YtibaoacjjcgjlaaGreatDoorW.PrintLast Go.Proofs.YtibaoacjjcgjlaaGreatDoorW.PrintMore Go.Proofs.YtibaoacjjcgjlaaGreatDoor.Base
set_option linter.unusedVariables false
set_option linter.unusedSimpArgs false
set_option linter.unusedSectionVars false
def bitsL (l : List Int) : Int := if (trimL l).length = 0 then 0 else 32 * (((trimL l).length : Int) - 1) + (Lib.bitLen (limbN l ((trimL l).length - 1)) : Int)
theorem bitLen_pos {x : Nat} (h : 1 ≤ x) (h2 : x < 4294967296) : 1 ≤ Lib.bitLen x := by
  rcases Nat.eq_zero_or_pos (Lib.bitLen x) with h0 | h0
  · have := lt_bitLen h2
    rw [h0] at this; simp at this; omega
  · exact h0
theorem limbN_last {l : List Int} (hd : DigB 4294967296 l) (h : (trimL l).length ≠ 0) : 1 ≤ limbN l ((trimL l).length - 1) := by
  have hle := trimL_len_le l
  have hc := trimL_can l
  have hi : (trimL l).length - 1 < l.length := by omega
  have e : (trimL l)[(trimL l).length - 1]? = l[(trimL l).length - 1]? := by
    have h1 : (trimL l)[(trimL l).length - 1]? = (l.take (trimL l).length)[(trimL l).length - 1]? := by rw [← trimL_take]
    rw [h1, List.getElem?_take, if_pos (by omega)]
  rw [List.getLast?_eq_getElem?, e, List.getElem?_eq_getElem hi] at hc
  have := hd l[(trimL l).length - 1] (List.getElem_mem hi)
  simp only [limbN, List.getD_eq_getElem?_getD, List.getElem?_eq_getElem hi, Option.getD_some]
  have hne : l[(trimL l).length - 1] ≠ 0 := fun hz => hc (by rw [hz])
  omega
theorem bitsL_zero {l : List Int} (hd : DigB 4294967296 l) : bitsL l = 0 ↔ valB 4294967296 l = 0 := by
  unfold bitsL
  have hg : GoodB 4294967296 (trimL l) := trimL_good hd
  have hv := trimL_val 4294967296 l
  by_cases h : (trimL l).length = 0
  · rw [if_pos h]
    have := List.eq_nil_of_length_eq_zero h
    rw [this, valB_nil] at hv
    exact ⟨fun _ => hv.symm, fun _ => rfl⟩
  · rw [if_neg h]
    refine ⟨fun hz => ?_, fun hz => ?_⟩
    · exfalso
      have hx : 1 ≤ limbN l ((trimL l).length - 1) := by
        have hlast := limbN_last hd h
        exact hlast
      have h2 := limbN_lt (by decide) hd ((trimL l).length - 1)
      have := bitLen_pos hx h2
      omega
    · exfalso
      have := hg.zero (by rw [hv, hz])
      rw [this] at h
      exact h rfl
def nat_Bits.f (l0 : List Int) : Option Int := if okN l0 = true then some (bitsL l0) else none
set_option maxRecDepth 100000 in
set_option maxHeartbeats 4000000 in
theorem nat_Bits.calls (A0 : Option Addr) (c0 : Nat) (l0 : List Int) (r : Int) (w : World) (hr0 : Kd.C (Kd.int .u32) w A0 l0.length l0) (hc0 : l0.length ≤ c0) (h : nat_Bits.f l0 = some r) :
    Calls Tryz.prog 88 #[.slice A0 l0.length c0] w fun e w' => e = .returned (.int .i64 r) ∧ Drawn0 w w' := by
  unfold nat_Bits.f at h
  by_cases hg : okN l0 = true
  · rw [if_pos hg] at h
    obtain rfl := Option.some.inj h
    obtain ⟨n0, d0⟩ := okN_iff.1 hg
    have TOP := top_calls A0 c0 l0 w hr0 hc0 (by omega)
    have hle := trimL_len_le l0
    unfold bitsL
    by_cases h0 : (trimL l0).length = 0
    · rw [if_pos h0]
      rw [h0] at TOP
      have HT := Aside0.mk TOP
      clear TOP
      go_enter Tryz.func88, Tryz.ntmps88
      go_wp2_with (go_at_call 93; refine HT.out.mono ?_; rintro e w1 ⟨rfl, ⟨q, rfl⟩⟩)
      go_ret
      exact ⟨rfl, ⟨_, rfl⟩⟩
    · rw [if_neg h0]
      have hl := limbN_last d0 h0
      obtain ⟨m, hm⟩ : ∃ m, (trimL l0).length = m := ⟨_, rfl⟩
      rw [hm] at hl TOP hle h0 ⊢
      obtain ⟨hx, hx2⟩ := rd_nat d0 (show m - 1 < l0.length by omega)
      obtain ⟨x, hxe⟩ : ∃ x, limbN l0 (m - 1) = x := ⟨_, rfl⟩
      rw [hxe] at hx hx2 hl ⊢
      obtain ⟨ad, hA, hcell⟩ := Kd.at_int hr0 ((m - 1 : Nat) : Int) (by omega) (by omega)
      rw [hx, Int.toNat_natCast] at hcell
      have LEN := fun W => Any.bits_Len32 Tryz.layLen32 (x : Int) W (by omega) (by omega)
      rw [Int.toNat_natCast] at LEN
      have hb := Any.bitLen_le32 (x : Int) (by omega) (by omega)
      rw [Int.toNat_natCast] at hb
      obtain ⟨b, hbb⟩ : ∃ b, Lib.bitLen x = b := ⟨_, rfl⟩
      rw [hbb] at LEN hb ⊢
      have hd0 : ((m : Int) == 0) = false := beq_eq_false_iff_ne.mpr (by omega)
      have q1 : (0 : Int) ≤ (m : Int) - 1 := by omega
      have q2 : (m : Int) - 1 < (l0.length : Int) := by omega
      have q3 : ((m : Int) - 1).toNat = m - 1 := by omega
      cases hA
      have HT := Aside0.mk TOP
      clear TOP hr0 hm hxe hbb hx
      go_enter Tryz.func88, Tryz.ntmps88
      go_wp2_with (first | (go_at_call 93; refine HT.out.mono ?_; rintro e w1 ⟨rfl, ⟨q, rfl⟩⟩) | (go_at_call 117; refine (LEN _).mono ?_; rintro e w1 ⟨rfl, rfl⟩))
      go_ret
      exact ⟨rfl, ⟨_, rfl⟩⟩
  · rw [if_neg hg] at h; cases h
theorem divmod_f {a b : List Int} (ha : okN a = true) (hb : okN b = true) (la : a.length ≤ 1048000) (lb : b.length ≤ 1048000) (h0 : valB 4294967296 b ≠ 0) : quo_DivMod.f a b = some (digB 4294967296 (valB 4294967296 a / valB 4294967296 b), digB 4294967296 (valB 4294967296 a % valB 4294967296 b), 0) := by
  unfold quo_DivMod.f
  rw [if_pos ⟨ha, hb, la, lb⟩, if_neg h0]
theorem gcd_law (n : Nat) (hn : n ≤ 1048000) : ∀ (y x k : Nat), x < 4294967296 ^ n → y < 4294967296 ^ n → y < k → quo_Gcd.l0 k (digB 4294967296 x) (digB 4294967296 y) = some (digB 4294967296 (Nat.gcd x y)) := by
  intro y
  induction y using Nat.strongRecOn with
  | ind y ih =>
    intro x k hx hy hk
    obtain ⟨k, rfl⟩ : ∃ m, k = m + 1 := ⟨k - 1, by omega⟩
    simp only [quo_Gcd.l0]
    by_cases h0 : y = 0
    · subst h0
      rw [digB_zero _ (by decide), if_neg (by simp), Nat.gcd_zero_right]
    · have hpos : 0 < (digB 4294967296 y).length := digB_len_ge (by decide) (n := 0) (by rw [Nat.pow_zero]; omega)
      have hlx := digB_len (B := 4294967296) (by decide) hx
      have hly := digB_len (B := 4294967296) (by decide) hy
      have hm : x % y < y := Nat.mod_lt _ (by omega)
      rw [if_pos (by omega), divmod_f (okN_digB hx (by omega)) (okN_digB hy (by omega)) (by omega) (by omega) (by rw [digB_val _ (by decide)]; exact h0)]
      simp only [Option.bind_some, digB_val 4294967296 (by decide)]
      rw [ih (x % y) hm y k hy (by omega) (by omega), gcd_rests x y (by omega)]
def quo_GcdC.f (l0 l1 : List Int) : Option (List Int) := if okN l0 = true ∧ okN l1 = true ∧ l0.length ≤ 1048000 ∧ l1.length ≤ 1048000 then some (digB 4294967296 (Nat.gcd (valB 4294967296 l0) (valB 4294967296 l1))) else none
theorem quo_GcdC.calls (A0 : Option Addr) (c0 : Nat) (l0 : List Int) (A1 : Option Addr) (c1 : Nat) (l1 : List Int) (r : List Int) (w : World) (hr0 : Kd.C (Kd.int .u32) w A0 l0.length l0) (hc0 : l0.length ≤ c0) (hr1 : Kd.C (Kd.int .u32) w A1 l1.length l1) (hc1 : l1.length ≤ c1) (h : quo_GcdC.f l0 l1 = some r) :
    Calls Tryz.prog 89 #[.slice A0 l0.length c0, .slice A1 l1.length c1] w fun e w' => ∃ v0_ : Value, e = .returned (v0_) ∧ Kd.R (Kd.int .u32) 88 w' w.heap.size (fun _ => True) v0_ r ∧ Below w.heap.size w w' := by
  unfold quo_GcdC.f at h
  by_cases hg : okN l0 = true ∧ okN l1 = true ∧ l0.length ≤ 1048000 ∧ l1.length ≤ 1048000
  · rw [if_pos hg] at h
    obtain ⟨k0, k1, n0, n1⟩ := hg
    refine quo_Gcd.calls (valB 4294967296 l1 + 1) A0 c0 l0 A1 c1 l1 r w hr0 hc0 hr1 hc1 ?_
    have d0 := (okN_iff.1 k0).2
    have d1 := (okN_iff.1 k1).2
    unfold quo_Gcd.f
    rw [trim_f k0, Option.bind_some, trim_f k1, Option.bind_some, trimL_eq (by decide) d0, trimL_eq (by decide) d1, ← h]
    obtain ⟨n, hn⟩ : ∃ n, max l0.length l1.length = n := ⟨_, rfl⟩
    have m0 : 4294967296 ^ l0.length ≤ 4294967296 ^ n := Nat.pow_le_pow_right (by decide) (by omega)
    have m1 : 4294967296 ^ l1.length ≤ 4294967296 ^ n := Nat.pow_le_pow_right (by decide) (by omega)
    exact gcd_law n (by omega) _ _ _ (Nat.lt_of_lt_of_le (valB_lt _ _ d0) m0) (Nat.lt_of_lt_of_le (valB_lt _ _ d1) m1) (Nat.lt_succ_self _)
  · rw [if_neg hg] at h; cases h
theorem below_setRow {B g : Nat} {a w : World} (h : Below B a w) (hg : B ≤ g) (cs : Array Value) : Below B a (w.setRow g cs) :=
  h.trans ⟨rfl, rfl, rfl, by simp [World.setRow], fun k hk => setRow_other _ _ _ _ (by omega)⟩
theorem store_row_any {P : Program} {ops : Array Oper} {rest : List Oper} {o : Oper} {a : Act} {w : World} {Q : Exit → Act → World → Prop} (hgd : o.guard = none) (ty : TypeId) (x y : Operand) (ho : o.op = .store ty x y)
    (g : Nat) (cells : Array Value) (hx : a.eval x = .pointer (some ⟨g, 0, none⟩)) (hy : a.eval y = .agg cells)
    (t : TypeId) (old : Array Value) (hg : w.heap[g]? = some (.cells old t (0, 0))) (hi : (P.info? ty).map (·.size) = some cells.size)
    (hold : old.size = cells.size) (h1 : cells.all (·.oneCell') = true)
    (h : ∀ W5 : World, W5.heap[g]? = some (.cells cells t (0, 0)) → (∀ k, k ≠ g → W5.heap[k]? = w.heap[k]?) → (∀ B, B ≤ g → Below B w W5) → wpList P ops Q rest (a.put o.dst undef) W5) : wpList P ops Q (o :: rest) a w :=
  wpList_store_row hgd ty x y ho g cells hx hy t old hg hi hold h1 (h _ (setRow_heap _ _ _ _ _ _ hg) (fun k hk => setRow_other _ _ _ _ hk) (fun B hB => below_setRow (Below.refl _ _) hB _))
set_option maxRecDepth 100000 in
set_option maxHeartbeats 4000000 in
theorem part_calls {a g : List Int} {na ng : Nat} (A : Option Addr) (ca : Nat) (G : Option Addr) (cg Bg : Nat) (W : World) (hna : a.length = na) (hng : g.length = ng) (hB : Boxed W Bg 29 (.slice G ng cg)) (hA : Kd.C (Kd.int .u32) W A a.length a) (hG : Kd.C (Kd.int .u32) W G g.length g) (h1 : na ≤ ca) (h2 : ng ≤ cg)
    (ka : okN a = true) (kg : okN g = true) (la : na ≤ 1048000) (lg : ng ≤ 1048000) (h0 : valB 4294967296 g ≠ 0) :
    Calls Tryz.prog 90 #[.slice A na ca, .pointer (some ⟨Bg, 0, none⟩)] W fun e W' => ∃ v, e = .returned v ∧ Kd.R (Kd.int .u32) 88 W' W.heap.size (fun _ => True) v (digB 4294967296 (valB 4294967296 a / valB 4294967296 g)) ∧ Below W.heap.size W W' := by
  subst hna
  subst hng
  have hc := hB.cell
  have BY := rat_by.calls A ca a G cg g (digB 4294967296 (valB 4294967296 a / valB 4294967296 g)) W hA h1 hG h2 (by unfold rat_by.f; rw [divmod_f ka kg la lg h0]; rfl)
  have HB := Aside0.mk BY
  clear BY hA hG
  go_enter Tryz.func90, Tryz.ntmps90
  go_wp2_with (go_at_call 91; refine HB.out.mono ?_; rintro e w1 ⟨v, rfl, hr, hb⟩)
  go_ret
  exact ⟨_, rfl, hr, hb⟩
def rat_Make.f (a0 : Bool) (l1 l2 : List Int) : Option (Bool × List Int × List Int × Int) :=
  if okN l1 = true ∧ okN l2 = true ∧ l1.length ≤ 1048000 ∧ l2.length ≤ 1048000 then (if valB 4294967296 l2 = 0 then some (false, [], [], 17) else if valB 4294967296 l1 = 0 then some (false, [], [1], 0) else
    some (a0, digB 4294967296 (valB 4294967296 l1 / Nat.gcd (valB 4294967296 l1) (valB 4294967296 l2)), digB 4294967296 (valB 4294967296 l2 / Nat.gcd (valB 4294967296 l1) (valB 4294967296 l2)), 0)) else none
theorem ratInfo : (Tryz.prog.info? 31).map (·.size) = some 3 := by kernel_rfl
def RatPost (w : World) (n : Bool) (a b : List Int) (x : Int) (e : Ending) (w' : World) : Prop := ∃ v1_ v2_ : Value, e = .returned (.tuple #[.agg #[.bool n, v1_, v2_], .int .i64 x]) ∧ Kd.R (Kd.int .u32) 88 w' w.heap.size (fun k_ => some k_ ≠ (v2_ : Value).ownBlock) v1_ a ∧ Kd.R (Kd.int .u32) 88 w' w.heap.size (fun k_ => some k_ ≠ (v1_ : Value).ownBlock) v2_ b ∧ Below w.heap.size w w'
section
variable (a0 : Bool) (A1 : Option Addr) (c1 : Nat) (l1 : List Int) (A2 : Option Addr) (c2 : Nat) (l2 : List Int) (w : World) (hr1 : Kd.C (Kd.int .u32) w A1 l1.length l1) (hc1 : l1.length ≤ c1) (hr2 : Kd.C (Kd.int .u32) w A2 l2.length l2) (hc2 : l2.length ≤ c2)
  (ok1 : okN l1 = true) (ok2 : okN l2 = true) (n1 : l1.length ≤ 1048000) (n2 : l2.length ≤ 1048000)
include hr1 hc1 hr2 hc2 ok1 ok2 n1 n2
set_option maxRecDepth 100000 in
set_option maxHeartbeats 8000000 in
theorem make_zero_calls (h0 : valB 4294967296 l2 = 0) : Calls Tryz.prog 54 #[.bool a0, .slice A1 l1.length c1, .slice A2 l2.length c2] w (RatPost w false [] [] 17) := by
  have hblk := World.alloc_heap_new w (.cells #[.bool false, .slice none 0 0, .slice none 0 0] 31)
  have B2 := nat_Bits.calls A2 c2 l2 0 (w.alloc (.cells #[.bool false, .slice none 0 0, .slice none 0 0] 31)) (Kd.cA9 hr2 _) hc2 (by unfold nat_Bits.f; rw [if_pos ok2, (bitsL_zero (okN_iff.1 ok2).2).2 h0])
  have HB2 := Aside0.mk B2
  have HBLK := Aside0.mk hblk
  clear B2 hr1 hr2 hblk
  go_enter Tryz.func54, Tryz.ntmps54
  go_wp2_with (first | (go_at_call 88; refine HB2.out.mono ?_; rintro e w1 ⟨rfl, ⟨q, rfl⟩⟩) | ((with_reducible refine gate_store (t := 31) (p := 6) rfl ?_); go_loud (refine store_row_any rfl 31 _ _ rfl w.heap.size #[.bool false, .slice none 0 0, .slice none 0 0] rfl rfl 31 #[.bool false, .slice none 0 0, .slice none 0 0] HBLK.out ratInfo rfl (by simp [Value.oneCell']) ?_); intro W5 hblk5 hoth hbel))
  refine bodyPost_ret (results_ct rfl _ _ w.heap.size 31 _ (0, 0) _ rfl hblk5 Tryz.underlying31 rfl ratInfo) rfl ?_
  exact ⟨_, _, rfl, Kd.R_nil _ _ _ _ _, Kd.R_nil _ _ _ _ _, (bN9 (bA9 (Below.refl _ _) _) _).trans (hbel _ (Nat.le_refl _))⟩
set_option maxRecDepth 100000 in
set_option maxHeartbeats 8000000 in
theorem make_nought_calls (h0 : valB 4294967296 l2 ≠ 0) (h1 : valB 4294967296 l1 = 0) : Calls Tryz.prog 54 #[.bool a0, .slice A1 l1.length c1, .slice A2 l2.length c2] w (RatPost w false [] [1] 0) := by
  have hblk := World.alloc_heap_new w (.cells #[.bool false, .slice none 0 0, .slice none 0 0] 31)
  obtain ⟨b, hb⟩ : ∃ b, bitsL l2 = b := ⟨_, rfl⟩
  have hb0 : b ≠ 0 := by rw [← hb]; exact fun h => h0 ((bitsL_zero (okN_iff.1 ok2).2).1 h)
  have B2 := nat_Bits.calls A2 c2 l2 b (w.alloc (.cells #[.bool false, .slice none 0 0, .slice none 0 0] 31)) (Kd.cA9 hr2 _) hc2 (by unfold nat_Bits.f; rw [if_pos ok2, hb])
  have B1 := fun W k => nat_Bits.calls A1 c1 l1 0 W k hc1 (by unfold nat_Bits.f; rw [if_pos ok1, (bitsL_zero (okN_iff.1 ok1).2).2 h1])
  have ONE := fun W => rat_one.calls [1] W (by
    unfold rat_one.f nat_Of.f
    rw [if_pos (by omega)]
    rw [show (1 : Int).toNat = 1 from rfl, digB_small (by decide) (by decide) (by decide)]
    rfl)
  have hd0 : (b == 0) = false := beq_eq_false_iff_ne.mpr hb0
  have HC1 := Aside0.mk (Kd.cA9 hr1 (.cells #[.bool false, .slice none 0 0, .slice none 0 0] 31))
  have HB2 := Aside0.mk B2
  have HBLK := Aside0.mk hblk
  clear B2 hr1 hr2 hblk hb hb0 h0 h1
  go_enter Tryz.func54, Tryz.ntmps54
  go_wp2_with (first | (go_at_call 88; (with_reducible refine HB2.out.mono ?_); rintro e w1 ⟨rfl, ⟨q, rfl⟩⟩) | (go_at_call 88; (with_reducible refine (B1 _ (Kd.cN9 HC1.out _)).mono ?_); rintro e w1 ⟨rfl, ⟨q2, rfl⟩⟩) | (go_at_call 55; refine (ONE _).mono ?_; rintro e w2 ⟨v, rfl, hrv, hb2⟩; have HRV := Aside0.mk hrv; have HB := Aside0.mk hb2; clear hrv hb2; obtain ⟨Av, cv, rfl⟩ := Kd.rS9 HRV.out) | ((with_reducible refine gate_store (t := 31) (p := 6) rfl ?_); go_loud (refine store_row_any rfl 31 _ _ rfl w.heap.size #[.bool false, .slice none 0 0, .slice Av [(1 : Int)].length cv] rfl rfl 31 #[.bool false, .slice none 0 0, .slice none 0 0] ((HB.out.block _ (by simp)).trans HBLK.out) ratInfo rfl (by simp [Value.oneCell']) ?_); intro W5 hblk5 hoth hbel))
  refine bodyPost_ret (results_ct rfl _ _ w.heap.size 31 _ (0, 0) _ rfl hblk5 Tryz.underlying31 rfl ratInfo) rfl ?_
  have hbe : Below w.heap.size w w2 := (bN9 (bA9 (Below.refl _ _) _) _).trans (HB.out.mono (by simp))
  refine ⟨_, _, rfl, Kd.R_nil _ _ _ _ _, ?_, hbe.trans (hbel _ (Nat.le_refl _))⟩
  have hR := Kd.R_bound HRV.out
  refine Kd.R_mono (Kd.rL9 (Kd.R_move hR (fun k hk => hoth k ?_)) (by simp)) (fun k _ h => by cases h)
  have := hk.2.1
  simp at this
  omega
set_option maxRecDepth 100000 in
set_option maxHeartbeats 16000000 in
theorem make_main_calls (h0 : valB 4294967296 l2 ≠ 0) (h1 : valB 4294967296 l1 ≠ 0) : Calls Tryz.prog 54 #[.bool a0, .slice A1 l1.length c1, .slice A2 l2.length c2] w
    (RatPost w a0 (digB 4294967296 (valB 4294967296 l1 / Nat.gcd (valB 4294967296 l1) (valB 4294967296 l2))) (digB 4294967296 (valB 4294967296 l2 / Nat.gcd (valB 4294967296 l1) (valB 4294967296 l2))) 0) := by
  have hblk := World.alloc_heap_new w (.cells #[.bool false, .slice none 0 0, .slice none 0 0] 31)
  obtain ⟨b, hb⟩ : ∃ b, bitsL l2 = b := ⟨_, rfl⟩
  obtain ⟨b', hb'⟩ : ∃ b, bitsL l1 = b := ⟨_, rfl⟩
  have hb0 : b ≠ 0 := by rw [← hb]; exact fun h => h0 ((bitsL_zero (okN_iff.1 ok2).2).1 h)
  have hb0' : b' ≠ 0 := by rw [← hb']; exact fun h => h1 ((bitsL_zero (okN_iff.1 ok1).2).1 h)
  have B2 := nat_Bits.calls A2 c2 l2 b (w.alloc (.cells #[.bool false, .slice none 0 0, .slice none 0 0] 31)) (Kd.cA9 hr2 _) hc2 (by unfold nat_Bits.f; rw [if_pos ok2, hb])
  have B1 := fun W k => nat_Bits.calls A1 c1 l1 b' W k hc1 (by unfold nat_Bits.f; rw [if_pos ok1, hb'])
  have hd0 : (b == 0) = false := beq_eq_false_iff_ne.mpr hb0
  have hd0' : (b' == 0) = false := beq_eq_false_iff_ne.mpr hb0'
  obtain ⟨g, hg⟩ : ∃ g, Nat.gcd (valB 4294967296 l1) (valB 4294967296 l2) = g := ⟨_, rfl⟩
  have hgp : 0 < g := by rw [← hg]; exact Nat.gcd_pos_of_pos_left _ (by omega)
  have hgl : g < 4294967296 ^ l1.length := by
    have h2 := Nat.gcd_le_left (valB 4294967296 l2) (show 0 < valB 4294967296 l1 by omega)
    have h3 := valB_lt 4294967296 l1 (okN_iff.1 ok1).2
    omega
  obtain ⟨gs, hgs⟩ : ∃ gs, digB 4294967296 g = gs := ⟨_, rfl⟩
  have egs : valB 4294967296 gs = g := by rw [← hgs]; exact digB_val _ (by decide) _
  have kgs : okN gs = true := by rw [← hgs]; exact okN_digB hgl (okN_iff.1 ok1).1
  have lgs : gs.length ≤ 1048000 := by rw [← hgs]; exact Nat.le_trans (digB_len (by decide) hgl) n1
  obtain ⟨ng, hng⟩ : ∃ ng, gs.length = ng := ⟨_, rfl⟩
  have GCD := fun W k1 k2 => slice_form (quo_GcdC.calls A1 c1 l1 A2 c2 l2 gs W k1 hc1 k2 hc2 (by unfold quo_GcdC.f; rw [if_pos ⟨ok1, ok2, n1, n2⟩, hg, hgs])) hng
  have P1 := fun G cg Bg W k1 k2 k3 k4 => part_calls (a := l1) (g := gs) A1 c1 G cg Bg W rfl hng k1 k2 k3 hc1 k4 ok1 kgs n1 (hng ▸ lgs) (by rw [egs]; omega)
  have P2 := fun G cg Bg W k1 k2 k3 k4 => part_calls (a := l2) (g := gs) A2 c2 G cg Bg W rfl hng k1 k2 k3 hc2 k4 ok2 kgs n2 (hng ▸ lgs) (by rw [egs]; omega)
  rw [egs] at P1 P2
  rw [hg]
  have HC1 := Aside0.mk (Kd.cA9 hr1 (.cells #[.bool false, .slice none 0 0, .slice none 0 0] 31))
  have HC2 := Aside0.mk (Kd.cA9 hr2 (.cells #[.bool false, .slice none 0 0, .slice none 0 0] 31))
  have HB2 := Aside0.mk B2
  have HBLK := Aside0.mk hblk
  have HNG := Aside0.mk hng
  obtain ⟨qa, hqa⟩ : ∃ q, digB 4294967296 (valB 4294967296 l1 / g) = q := ⟨_, rfl⟩
  obtain ⟨qb, hqb⟩ : ∃ q, digB 4294967296 (valB 4294967296 l2 / g) = q := ⟨_, rfl⟩
  rw [hqa] at P1
  rw [hqb] at P2
  rw [hqa, hqb]
  clear B2 hr1 hr2 hblk hb hb0 h0 h1 hb' hb0' hng hgs hg hqa hqb
  go_enter Tryz.func54, Tryz.ntmps54
  go_wp2_with (first | (go_at_call 88; (with_reducible refine HB2.out.mono ?_); rintro e w1 ⟨rfl, ⟨q, rfl⟩⟩) | (go_at_call 88; (with_reducible refine (B1 _ (Kd.cN9 HC1.out _)).mono ?_); rintro e w1 ⟨rfl, ⟨q2, rfl⟩⟩) | (go_at_call 89; go_loud (refine (GCD _ (Kd.cN9 HC1.out _) (Kd.cN9 HC2.out _)).mono ?_); rintro e w2 ⟨Ag, cg, rfl, hcg, hrg, hb2⟩; have HRG := Aside0.mk hrg; have HB := Aside0.mk hb2; clear hrg hb2) | (go_at_call 90; refine (P1 Ag cg w2.heap.size _ (Boxed.new _ _ _) (Kd.cB9 (Kd.cB9 (Kd.cN9 HC1.out _) HB.out) (bA9 (Below.refl _ _) _)) (C_of_R (Kd.rB9 HRG.out (bA9 (Below.refl _ _) _)) HNG.out) hcg).mono ?_; rintro e w4 ⟨v4, rfl, hr4, hb4⟩; obtain ⟨Aq, cq, rfl⟩ := Kd.rS9 hr4; have HR4 := Aside0.mk hr4; have HB4 := Aside0.mk hb4; clear hr4 hb4) | (go_at_call 90; refine (P2 Ag cg w2.heap.size _ ((HB4.out.block _ (by simp)).trans (Boxed.new _ _ _)) (Kd.cB9 (Kd.cB9 (Kd.cB9 (Kd.cN9 HC2.out _) HB.out) (bA9 (Below.refl _ _) _)) HB4.out) (C_of_R (Kd.rB9 (Kd.rB9 HRG.out (bA9 (Below.refl _ _) _)) HB4.out) HNG.out) hcg).mono ?_; rintro e w5 ⟨v5, rfl, hr5, hb5⟩; obtain ⟨Ar, cr, rfl⟩ := Kd.rS9 hr5; have HR5 := Aside0.mk hr5; have HB5 := Aside0.mk hb5; clear hr5 hb5; have s2 : w.heap.size + 1 ≤ w2.heap.size := by { have := HB.out.size; simpa using this }; have s4 : w2.heap.size + 1 ≤ w4.heap.size := by { have := HB4.out.size; simpa using this }; have s5 := HB5.out.size; have hblk := (HB5.out.block w.heap.size (by omega)).trans ((HB4.out.block w.heap.size (by simp; omega)).trans ((Below.heap_alloc w2 (.cells #[.slice Ag ng cg] 29) w.heap.size (by omega)).trans ((HB.out.block w.heap.size (by simp)).trans HBLK.out)))) | ((with_reducible refine gate_store (t := 31) (p := 6) rfl ?_); go_loud (refine store_row_any rfl 31 _ _ rfl w.heap.size #[.bool a0, .slice Aq qa.length cq, .slice Ar qb.length cr] rfl rfl 31 #[.bool false, .slice none 0 0, .slice none 0 0] hblk ratInfo rfl (by simp [Value.oneCell']) ?_); intro W5 hblk5 hoth hbel))
  refine bodyPost_ret (results_ct rfl _ _ w.heap.size 31 _ (0, 0) _ rfl hblk5 Tryz.underlying31 rfl ratInfo) rfl ?_
  have hb0 : Below w.heap.size w w2 := (bN9 (bA9 (Below.refl _ _) _) _).trans (HB.out.mono (by simp))
  have hb4 : Below w.heap.size w w4 := (bA9 hb0 _).trans (HB4.out.mono (by simp; omega))
  have hb5 : Below w.heap.size w w5 := hb4.trans (HB5.out.mono (by omega))
  have q4 := Kd.R_elder HR4.out HR5.out HB5.out
  have q5 := Kd.R_newR HR5.out HR4.out
  refine ⟨_, _, rfl, ?_, ?_, hb5.trans (hbel _ (Nat.le_refl _))⟩
  · refine Kd.R_mono (Kd.rL9 (Kd.R_move (Kd.R_bound q4) (fun k hk => hoth k ?_)) (by simp; omega)) (fun k hk => hk.1.2)
    have := hk.2.1
    simp at this
    omega
  · refine Kd.R_mono (Kd.rL9 (Kd.R_move (Kd.R_bound q5) (fun k hk => hoth k ?_)) (by omega)) (fun k hk => hk.1.2)
    have := hk.2.1
    omega
end
theorem rat_Make.calls (a0 : Bool) (A1 : Option Addr) (c1 : Nat) (l1 : List Int) (A2 : Option Addr) (c2 : Nat) (l2 : List Int) (r1 : Bool) (r2 r3 : List Int) (r4 : Int) (w : World) (hr1 : Kd.C (Kd.int .u32) w A1 l1.length l1) (hc1 : l1.length ≤ c1) (hr2 : Kd.C (Kd.int .u32) w A2 l2.length l2) (hc2 : l2.length ≤ c2) (h : rat_Make.f a0 l1 l2 = some (r1, r2, r3, r4)) :
    Calls Tryz.prog 54 #[.bool a0, .slice A1 l1.length c1, .slice A2 l2.length c2] w fun e w' => ∃ v1_ v2_ : Value, e = .returned (.tuple #[.agg #[.bool r1, v1_, v2_], .int .i64 r4]) ∧ Kd.R (Kd.int .u32) 88 w' w.heap.size (fun k_ => some k_ ≠ (v2_ : Value).ownBlock) v1_ r2 ∧ Kd.R (Kd.int .u32) 88 w' w.heap.size (fun k_ => some k_ ≠ (v1_ : Value).ownBlock) v2_ r3 ∧ Below w.heap.size w w' := by
  unfold rat_Make.f at h
  by_cases hg : okN l1 = true ∧ okN l2 = true ∧ l1.length ≤ 1048000 ∧ l2.length ≤ 1048000
  · rw [if_pos hg] at h
    obtain ⟨k1, k2, n1, n2⟩ := hg
    by_cases h2 : valB 4294967296 l2 = 0
    · rw [if_pos h2] at h
      obtain ⟨rfl, rfl, rfl, rfl⟩ : false = r1 ∧ [] = r2 ∧ [] = r3 ∧ 17 = r4 := by simpa using h
      exact make_zero_calls a0 A1 c1 l1 A2 c2 l2 w hr1 hc1 hr2 hc2 k1 k2 n1 n2 h2
    · rw [if_neg h2] at h
      by_cases h1 : valB 4294967296 l1 = 0
      · rw [if_pos h1] at h
        obtain ⟨rfl, rfl, rfl, rfl⟩ : false = r1 ∧ [] = r2 ∧ [1] = r3 ∧ 0 = r4 := by simpa using h
        exact make_nought_calls a0 A1 c1 l1 A2 c2 l2 w hr1 hc1 hr2 hc2 k1 k2 n1 n2 h2 h1
      · rw [if_neg h1] at h
        have h := Option.some.inj h
        simp only [Prod.mk.injEq] at h
        obtain ⟨e1, e2, e3, e4⟩ := h
        subst e1 e2 e3 e4
        exact make_main_calls a0 A1 c1 l1 A2 c2 l2 w hr1 hc1 hr2 hc2 k1 k2 n1 n2 h2 h1
  · rw [if_neg hg] at h; cases h
end Go.Proofs.YtibaoacjjcgjlaaGreatDoor.Print
