/- Proved here: DigitsBack, the card of the law: a natural and a rational are read of their texts, and what is read is told as it was. Without a condition. Written by wip/tools/claimtexts.py: these texts, one behind another, without what this claim does not use: PuRefA, A7, A8, PuRefB, PuRefC, PuOrder, PuNats, A9, A10, PuRats, PuParse, PuBack, PureDigitsBack, HRow, LawDigitsBack. -/
import Derived.Test.YthppjdmkinbccaaGreatDoorMgBack4
import Derived.Test.YthppjdmkinbccaaGreatDoorMgBack3
import Derived.Test.YthppjdmkinbccaaGreatDoorMgBack2
import Derived.Test.YthppjdmkinbccaaGreatDoorMgBack7
import Derived.Test.YthppjdmkinbccaaGreatDoorMgBack6
import Derived.Test.YthppjdmkinbccaaGreatDoorMgBack8
import Derived.Lib.SmallJoins
import Derived.ProofKit
import Derived.OpenShut
import Derived.ShutString
import Derived.ChangeOld
import Derived.SizedLaws
import Derived.Test.YthppjdmkinbccaaGreatDoorMgBack1
import Derived.Test.YthppjdmkinbccaaGreatDoorCards
import Derived.Test.YthppjdmkinbccaaGreatDoorTie
import Derived.WalkKit
import Derived.Below
import Derived.Lay
import Derived.Deep.DeepHandedRow
import Derived.Deep.DeepWitnessRowRef
import Derived.Lib.LaidTab
import Derived.Stop.LaidErr
namespace Go.Proofs.YthppjdmkinbccaaGreatDoor.Ref
open Go.RowKit Go.Proofs.YthppjdmkinbccaaGreatDoorW.PrintWords Go.Proofs.YthppjdmkinbccaaGreatDoorW.PrintLast Go.Proofs.YthppjdmkinbccaaGreatDoor.Print Go.Proofs.YthppjdmkinbccaaGreatDoor.Base
set_option linter.unusedVariables false
set_option linter.unusedSimpArgs false
theorem w64 {x : Int} (h0 : -9223372036854775808 ≤ x) (h1 : x ≤ 9223372036854775807) : wrap64 x = x := by
  unfold wrap64; omega
theorem w64n {n : Nat} (h : n ≤ 9223372036854775807) : wrap64 (n : Int) = (n : Int) := w64 (by omega) (by omega)
theorem tdiv_nat (a b : Nat) : Int.tdiv (a : Int) (b : Int) = ((a / b : Nat) : Int) := rfl
theorem tmod_nat (a b : Nat) : Int.tmod (a : Int) (b : Int) = ((a % b : Nat) : Int) := rfl
theorem rd_limb {B : Nat} {l : List Int} (h : DigB B l) (i : Nat) : rd l (i : Int) = ((limbN l i : Nat) : Int) := by
  unfold rd limbN
  rw [Int.toNat_natCast, Int.toNat_of_nonneg]
  rcases Nat.lt_or_ge i l.length with c | c
  · have := h l[i] (List.getElem_mem c)
    simp [c]; omega
  · simp [List.getElem?_eq_none c]
theorem digit_f {B : Nat} {l : List Int} (h : DigB B l) (i : Nat) : r1d.f l (i : Int) = some ((limbN l i : Nat) : Int) := by
  unfold r1d.f
  by_cases c : i < l.length
  · rw [if_pos (by omega), if_pos (by omega), rd_limb h]
  · rw [if_neg (by omega), limbN_out (by omega)]; rfl
theorem top_pos {B : Nat} {l : List Int} (g : GoodB B l) {m : Nat} (h : m + 1 = l.length) : 0 < limbN l m := by
  have hl : l ≠ [] := fun e => by rw [e] at h; simp at h
  have hg : l.getLast hl ≠ 0 := fun c => g.can (by rw [List.getLast?_eq_some_getLast hl, c])
  have hd := g.dig _ (List.getLast_mem hl)
  have e : l.getD m 0 = l.getLast hl := by
    rw [List.getLast_eq_getElem]
    simp [show m = l.length - 1 by omega, show l.length - 1 < l.length by omega]
  unfold limbN; rw [e]; omega
theorem sumB_mul {B d : Nat} {g : Nat → Nat} : ∀ n, sumB B (fun i => g i * d) n = sumB B g n * d
  | 0 => by simp [sumB]
  | n + 1 => by rw [sumB, sumB, sumB_mul n, Nat.add_mul, Nat.mul_assoc]
theorem digB_step {B v : Nat} (hB : 2 ≤ B) (hv : 0 < v) : digB B v = ((v % B : Nat) : Int) :: digB B (v / B) := by
  have hm := Nat.mod_lt v (show 0 < B by omega)
  refine GoodB.inj (digB_good B hB v) ⟨DigB.cons (by omega) (by omega) (digB_good B hB _).dig, fun c => ?_⟩ ?_
  · cases hr : digB B (v / B) with
    | nil =>
      rw [hr] at c
      have h1 : ((v % B : Nat) : Int) = 0 := by simpa using c
      have h2 : v / B = 0 := by have := digB_val B hB (v / B); rw [hr] at this; exact this.symm
      have := Nat.mod_add_div v B
      rw [h2] at this; omega
    | cons e s =>
      rw [hr, List.getLast?_cons_cons, ← hr] at c
      exact (digB_good B hB _).can c
  · rw [digB_val B hB, valB_cons, digB_val B hB, Int.toNat_natCast, Nat.mod_add_div]
theorem digB_nil (v : Nat) : digB 10000 v = [] ↔ v = 0 :=
  ⟨fun h => by have := digB_val 10000 (by decide) v; rw [h] at this; exact this.symm, fun h => by rw [h]; exact digB_zero _ (by decide)⟩
theorem T_good (v : Nat) : GoodB 10000 (digB 10000 v) := digB_good _ (by decide) v
theorem T_val (v : Nat) : valB 10000 (digB 10000 v) = v := digB_val _ (by decide) v
theorem limb_lt {l : List Int} (h : DigB 10000 l) (i : Nat) : limbN l i < 10000 := limbN_lt (by decide) h i
theorem T_len {x n : Nat} (h : x < 4294967296 ^ n) : (digB 10000 x).length ≤ 3 * n := by
  refine digB_len (by decide) (Nat.lt_of_lt_of_le h ?_)
  rw [Nat.pow_mul]
  exact Nat.pow_le_pow_left (by decide) n
theorem T_len_le {x y : Nat} (h : x ≤ y) : (digB 10000 x).length ≤ (digB 10000 y).length := by
  refine digB_len (by decide) (Nat.lt_of_le_of_lt h ?_)
  have := valB_lt 10000 _ (T_good y).dig
  rwa [T_val] at this
def addF (a b : List Int) (i : Nat) : Nat := limbN a i + limbN b i
theorem addF_small {a b : List Int} (da : DigB 10000 a) (db : DigB 10000 b) (i : Nat) : addF a b i ≤ 2 * (10000 - 1) := by
  have := limb_lt da i; have := limb_lt db i; unfold addF; omega
theorem add_stop {a b : List Int} (ga : GoodB 10000 a) (gb : GoodB 10000 b) (i : Nat) (h1 : a.length ≤ i) (h2 : b.length ≤ i) (h3 : (putB 10000 (addF a b) i).2 = 0)
    (inv : i = 0 ∨ i - 1 < a.length ∨ i - 1 < b.length ∨ 0 < (putB 10000 (addF a b) (i - 1)).2) : (putB 10000 (addF a b) i).1 = digB 10000 (valB 10000 a + valB 10000 b) := by
  obtain ⟨e, d⟩ := putB_spec (B := 10000) (by decide) (f := addF a b) i
  rw [h3, Nat.mul_zero, Nat.add_zero] at e
  have es : sumB 10000 (addF a b) i = valB 10000 a + valB 10000 b := by
    show sumB 10000 (fun j => limbN a j + limbN b j) i = _
    rw [sumB_add, sumB_limb a i h1, sumB_limb b i h2]
  rw [← es, ← e]
  refine GoodB.eq (by decide) ⟨d, ?_⟩
  cases i with
  | zero => simp [putB]
  | succ m =>
    rw [Nat.add_sub_cancel] at inv
    have c2 : (putB 10000 (addF a b) (m + 1)).2 = (addF a b m + (putB 10000 (addF a b) m).2) / 10000 := rfl
    have c1 : (putB 10000 (addF a b) (m + 1)).1 = (putB 10000 (addF a b) m).1 ++ [(((addF a b m + (putB 10000 (addF a b) m).2) % 10000 : Nat) : Int)] := rfl
    rw [c2] at h3
    have hp : 0 < addF a b m + (putB 10000 (addF a b) m).2 := by
      rcases inv with h | h | h | h
      · omega
      · have := top_pos ga (m := m) (by omega); unfold addF; omega
      · have := top_pos gb (m := m) (by omega); unfold addF; omega
      · omega
    rw [c1]
    intro c
    have : (((addF a b m + (putB 10000 (addF a b) m).2) % 10000 : Nat) : Int) = 0 := by simpa using c
    omega
theorem add_loop {a b : List Int} (ga : GoodB 10000 a) (gb : GoodB 10000 b) (la : a.length ≤ 1000000) (lb : b.length ≤ 1000000) : ∀ (m i : Nat), i + m = max a.length b.length + 1 →
    (i = 0 ∨ i - 1 < a.length ∨ i - 1 < b.length ∨ 0 < (putB 10000 (addF a b) (i - 1)).2) →
    Ev (fun k => r1Add.l0 k a b (putB 10000 (addF a b) i).1 (((putB 10000 (addF a b) i).2 : Nat) : Int) (i : Int)) (digB 10000 (valB 10000 a + valB 10000 b)) := by
  have stop : ∀ i : Nat, i ≤ 1000001 → ¬ (i < a.length ∨ i < b.length ∨ 0 < (putB 10000 (addF a b) i).2) → (i = 0 ∨ i - 1 < a.length ∨ i - 1 < b.length ∨ 0 < (putB 10000 (addF a b) (i - 1)).2) →
      Ev (fun k => r1Add.l0 k a b (putB 10000 (addF a b) i).1 (((putB 10000 (addF a b) i).2 : Nat) : Int) (i : Int)) (digB 10000 (valB 10000 a + valB 10000 b)) := by
    intro i hi hc inv
    have h3 : (putB 10000 (addF a b) i).2 = 0 := by omega
    have e := add_stop ga gb i (by omega) (by omega) h3 inv
    refine Ev.step (fun k => ?_) (Ev.step (g := fun k => r1Add.j1 k a b (putB 10000 (addF a b) i).1 (((putB 10000 (addF a b) i).2 : Nat) : Int) (i : Int) false) (f := fun _ => some (putB 10000 (addF a b) i).1) (fun k => ?_) (e ▸ Ev.now _))
    · simp only [r1Add.l0]
      rw [if_neg (by omega), if_neg (by omega), decide_eq_false (by omega)]
    · simp only [r1Add.j1]
      rw [if_neg (by decide)]
  intro m
  induction m with
  | zero =>
    intro i hi inv
    have hb := putB_carry (B := 10000) (by decide) (K := 2) (addF_small ga.dig gb.dig) (i - 1)
    have hi1 : i = (i - 1) + 1 := by omega
    have h0 : (putB 10000 (addF a b) i).2 = 0 := by
      rw [hi1]
      show (addF a b (i - 1) + (putB 10000 (addF a b) (i - 1)).2) / 10000 = 0
      have : addF a b (i - 1) = 0 := by unfold addF; rw [limbN_out (by omega), limbN_out (by omega)]
      omega
    exact stop i (by omega) (by omega) inv
  | succ m ih =>
    intro i hi inv
    by_cases hc : i < a.length ∨ i < b.length ∨ 0 < (putB 10000 (addF a b) i).2
    · have hn := ih (i + 1) (by omega) (by rw [Nat.add_sub_cancel]; omega)
      have hcar := putB_carry (B := 10000) (by decide) (K := 2) (addF_small ga.dig gb.dig) i
      have h1 := limb_lt ga.dig i
      have h2 := limb_lt gb.dig i
      refine Ev.step (fun k => ?_) (Ev.step (g := fun k => r1Add.j1 k a b (putB 10000 (addF a b) i).1 (((putB 10000 (addF a b) i).2 : Nat) : Int) (i : Int) true) (fun k => ?_) hn)
      · simp only [r1Add.l0]
        by_cases c1 : i < a.length
        · rw [if_pos (by omega)]
        · rw [if_neg (by omega)]
          by_cases c2 : i < b.length
          · rw [if_pos (by omega)]
          · rw [if_neg (by omega), decide_eq_true (by omega)]
      · simp only [r1Add.j1]
        rw [if_pos trivial, digit_f ga.dig, digit_f gb.dig, Option.bind_some, Option.bind_some, if_pos (by rw [putB_len]; omega)]
        have ea : addF a b i = limbN a i + limbN b i := rfl
        have e1 : wrap64 (wrap64 (((limbN a i : Nat) : Int) + ((limbN b i : Nat) : Int)) + (((putB 10000 (addF a b) i).2 : Nat) : Int)) = ((addF a b i + (putB 10000 (addF a b) i).2 : Nat) : Int) := by
          rw [← Int.natCast_add, w64n (by omega), ← Int.natCast_add, w64n (by omega)]; rfl
        rw [e1, show (10000 : Int) = ((10000 : Nat) : Int) from rfl, tdiv_nat, tmod_nat, w64n (by omega), w64 (by omega) (by omega)]
        rfl
    · exact stop i (by omega) hc inv
theorem add_ev {x y : Nat} (hx : (digB 10000 x).length ≤ 1000000) (hy : (digB 10000 y).length ≤ 1000000) : Ev (fun k => r1Add.f k (digB 10000 x) (digB 10000 y)) (digB 10000 (x + y)) := by
  have h := add_loop (T_good x) (T_good y) hx hy (max (digB 10000 x).length (digB 10000 y).length + 1) 0 (by omega) (Or.inl rfl)
  rw [T_val, T_val] at h
  exact h
theorem take_snoc {l : List Int} {i : Nat} (h : i < l.length) : l.take (i + 1) = l.take i ++ [rd l (i : Int)] := by
  rw [List.take_succ_eq_append_getElem h]; simp [rd, h]
theorem trim_loop (l : List Int) (hl : l.length ≤ 4611686018427387904) : ∀ i : Nat, i ≤ l.length → Ev (fun k => r1t.l0 k l (i : Int)) (trimL (l.take i))
  | 0, _ => by
    refine Ev.step (f := fun _ => some []) (fun k => ?_) (Ev.now _)
    simp only [r1t.l0]
    rw [if_neg (by omega), if_pos (by omega), if_pos (by omega)]; rfl
  | i + 1, hi => by
    have hw : wrap64 (((i + 1 : Nat) : Int) - 1) = (i : Int) := by rw [w64 (by omega) (by omega)]; omega
    rw [take_snoc (by omega)]
    by_cases h0 : rd l (i : Int) = 0
    · rw [h0, trimL_snoc_zero]
      refine Ev.step (fun k => ?_) (trim_loop l hl i (by omega))
      simp only [r1t.l0]
      rw [hw, if_pos (by omega), if_pos (by omega), if_pos (by omega), if_pos h0]
    · rw [trimL_snoc _ _ h0]
      refine Ev.step (f := fun _ => some (l.take (i + 1))) (fun k => ?_) (by rw [take_snoc (by omega)]; exact Ev.now _)
      simp only [r1t.l0]
      rw [hw, if_pos (by omega), if_pos (by omega), if_pos (by omega), if_neg h0, if_pos (by omega), if_pos (by omega)]; rfl
theorem trim_ev {l : List Int} (hd : DigB 10000 l) (hl : l.length ≤ 4611686018427387904) : Ev (fun k => r1t.f k l) (digB 10000 (valB 10000 l)) := by
  have h := trim_loop l hl l.length (by omega)
  rw [List.take_length, trimL_eq (by decide) hd] at h
  exact h
def timesF (a : List Int) (d : Nat) (i : Nat) : Nat := limbN a i * d
theorem times_carry {a : List Int} (da : DigB 10000 a) (d i : Nat) : (putB 10000 (timesF a d) i).2 ≤ d := by
  refine putB_carry (by decide) (fun j => ?_) i
  have := limb_lt da j
  unfold timesF
  rw [Nat.mul_comm]
  exact Nat.mul_le_mul_left _ (by omega)
theorem times_out {a : List Int} (da : DigB 10000 a) (d : Nat) : ∀ t, (putB 10000 (timesF a d) (a.length + t)).2 ≤ d / 10000 ^ t
  | 0 => by simpa using times_carry da d a.length
  | t + 1 => by
    have ih := times_out da d t
    show (timesF a d (a.length + t) + (putB 10000 (timesF a d) (a.length + t)).2) / 10000 ≤ _
    rw [show timesF a d (a.length + t) = 0 by unfold timesF; rw [limbN_out (by omega), Nat.zero_mul], Nat.zero_add, Nat.pow_succ, ← Nat.div_div_eq_div_mul]
    exact Nat.div_le_div_right ih
theorem times_loop {a : List Int} (da : DigB 10000 a) (la : a.length ≤ 1000000) {d : Nat} (hd : d ≤ 4294967296) : ∀ (m i : Nat), i + m = a.length + 3 →
    Ev (fun k => r1Times.l0 k a (d : Int) (putB 10000 (timesF a d) i).1 (((putB 10000 (timesF a d) i).2 : Nat) : Int) (i : Int)) (digB 10000 (valB 10000 a * d)) := by
  have stop : ∀ i : Nat, i ≤ 1000003 → a.length ≤ i → (putB 10000 (timesF a d) i).2 = 0 →
      Ev (fun k => r1Times.l0 k a (d : Int) (putB 10000 (timesF a d) i).1 (((putB 10000 (timesF a d) i).2 : Nat) : Int) (i : Int)) (digB 10000 (valB 10000 a * d)) := by
    intro i hi hl h3
    obtain ⟨e, g⟩ := putB_spec (B := 10000) (by decide) (f := timesF a d) i
    rw [h3, Nat.mul_zero, Nat.add_zero] at e
    have es : sumB 10000 (timesF a d) i = valB 10000 a * d := by
      show sumB 10000 (fun j => limbN a j * d) i = _
      rw [sumB_mul, sumB_limb a i hl]
    have ht := trim_ev g (by rw [putB_len]; omega)
    rw [e, es] at ht
    refine Ev.step (fun k => ?_) (Ev.bind ht (f := fun _ t => some t) (Ev.now _))
    simp only [r1Times.l0]
    rw [if_neg (by omega), if_neg (by omega)]
  intro m
  induction m with
  | zero =>
    intro i hi
    have := times_out da d 3
    rw [show a.length + 3 = i by omega] at this
    exact stop i (by omega) (by omega) (by omega)
  | succ m ih =>
    intro i hi
    have hn := ih (i + 1) (by omega)
    have hcar := times_carry da d i
    have h1 := limb_lt da i
    have hp : timesF a d i ≤ 9999 * 4294967296 := by unfold timesF; exact Nat.mul_le_mul (by omega) hd
    have e1 : wrap64 (wrap64 (((limbN a i : Nat) : Int) * (d : Int)) + (((putB 10000 (timesF a d) i).2 : Nat) : Int)) = ((timesF a d i + (putB 10000 (timesF a d) i).2 : Nat) : Int) := by
      rw [← Int.natCast_mul]
      show wrap64 (wrap64 ((timesF a d i : Nat) : Int) + _) = _
      rw [w64n (by omega), ← Int.natCast_add, w64n (by omega)]
    have e2 : ∀ k, (if (putB 10000 (timesF a d) i).1.length < 17592186044416 then r1Times.l0 k a (d : Int) ((putB 10000 (timesF a d) i).1 ++ [Int.tmod (wrap64 (wrap64 (((limbN a i : Nat) : Int) * (d : Int)) + (((putB 10000 (timesF a d) i).2 : Nat) : Int))) 10000]) (wrap64 (Int.tdiv (wrap64 (wrap64 (((limbN a i : Nat) : Int) * (d : Int)) + (((putB 10000 (timesF a d) i).2 : Nat) : Int))) 10000)) (wrap64 ((i : Int) + 1)) else none) =
        r1Times.l0 k a (d : Int) (putB 10000 (timesF a d) (i + 1)).1 (((putB 10000 (timesF a d) (i + 1)).2 : Nat) : Int) ((i + 1 : Nat) : Int) := by
      intro k
      rw [if_pos (by rw [putB_len]; omega), e1, show (10000 : Int) = ((10000 : Nat) : Int) from rfl, tdiv_nat, tmod_nat, w64n (by omega), w64 (by omega) (by omega)]
      rfl
    by_cases c1 : i < a.length
    · refine Ev.step (fun k => ?_) hn
      simp only [r1Times.l0]
      rw [if_pos (by omega), digit_f da, Option.bind_some, e2]
    · by_cases c2 : 0 < (putB 10000 (timesF a d) i).2
      · refine Ev.step (fun k => ?_) hn
        simp only [r1Times.l0]
        rw [if_neg (by omega), if_pos (by omega), digit_f da, Option.bind_some, e2]
      · exact stop i (by omega) (by omega) (by omega)
theorem times_ev {x d : Nat} (hx : (digB 10000 x).length ≤ 1000000) (hd : d ≤ 4294967296) : Ev (fun k => r1Times.f k (digB 10000 x) (d : Int)) (digB 10000 (x * d)) := by
  have h := times_loop (T_good x).dig hx hd ((digB 10000 x).length + 3) 0 (by omega)
  rw [T_val] at h
  exact h
theorem times_lit {x : Nat} (hx : (digB 10000 x).length ≤ 1000000) : Ev (fun k => r1Times.f k (digB 10000 x) 65536) (digB 10000 (x * 65536)) := by
  have h := times_ev (d := 65536) hx (by decide)
  rw [show ((65536 : Nat) : Int) = 65536 from rfl] at h
  exact h
theorem small_loop : ∀ (m v : Nat) (acc : List Int), v < 10000 ^ m → v ≤ 9223372036854775807 → acc.length + m ≤ 1000000 → Ev (fun k => r1Sm.l0 k (v : Int) acc) (acc ++ digB 10000 v)
  | 0, v, acc, h, _, _ => by
    obtain rfl : v = 0 := by simpa using h
    rw [digB_zero _ (by decide), List.append_nil]
    refine Ev.step (f := fun _ => some acc) (fun k => ?_) (Ev.now _)
    simp only [r1Sm.l0]; rw [if_neg (by omega)]
  | m + 1, v, acc, h, h63, hl => by
    by_cases h0 : v = 0
    · subst h0
      rw [digB_zero _ (by decide), List.append_nil]
      refine Ev.step (f := fun _ => some acc) (fun k => ?_) (Ev.now _)
      simp only [r1Sm.l0]; rw [if_neg (by omega)]
    · have ih := small_loop m (v / 10000) (acc ++ [((v % 10000 : Nat) : Int)]) (Nat.div_lt_of_lt_mul (by rw [Nat.pow_succ, Nat.mul_comm] at h; exact h)) (by omega) (by simp; omega)
      rw [List.append_assoc, List.singleton_append, ← digB_step (by decide) (by omega)] at ih
      refine Ev.step (fun k => ?_) ih
      simp only [r1Sm.l0]
      rw [if_pos (by omega), if_pos (by omega), show (10000 : Int) = ((10000 : Nat) : Int) from rfl, tdiv_nat, tmod_nat, w64n (by omega)]
theorem small_ev {v : Nat} (h : v < 1000000000000) : Ev (fun k => r1Sm.f k (v : Int)) (digB 10000 v) := by
  have := small_loop 3 v [] (by omega) (by omega) (by simp)
  exact this
theorem valB_drop {B : Nat} {l : List Int} {j : Nat} (h : j < l.length) : valB B (l.drop j) = limbN l j + B * valB B (l.drop (j + 1)) := by
  rw [List.drop_eq_getElem_cons h, valB_cons]
  simp [limbN, h]
theorem of_loop {l : List Int} (hd : DigB 4294967296 l) (hl : l.length ≤ 100000) : ∀ i : Nat, i ≤ l.length → Ev (fun k => r1Of.l0 k l (digB 10000 (valB 4294967296 (l.drop i))) ((i : Int) - 1)) (digB 10000 (valB 4294967296 l))
  | 0, _ => by
    refine Ev.step (f := fun _ => some (digB 10000 (valB 4294967296 l))) (fun k => ?_) (Ev.now _)
    simp only [r1Of.l0]; rw [if_neg (by omega)]; rfl
  | j + 1, hj => by
    have ih := of_loop hd hl j (by omega)
    rw [valB_drop (B := 4294967296) (j := j) (by omega)] at ih
    have hX := valB_lt 4294967296 _ (hd.drop (j + 1))
    rw [List.length_drop] at hX
    generalize valB 4294967296 (l.drop (j + 1)) = X at hX ih ⊢
    have l1 := T_len hX
    have hX1 : X * 65536 < 4294967296 ^ (l.length - (j + 1) + 1) := by
      rw [Nat.pow_succ]
      exact Nat.lt_of_lt_of_le (Nat.mul_lt_mul_of_pos_right hX (by decide)) (Nat.mul_le_mul_left _ (by decide))
    have l2 := T_len hX1
    have hX2 : X * 65536 * 65536 < 4294967296 ^ (l.length - (j + 1) + 1) := by
      rw [Nat.pow_succ, Nat.mul_assoc]
      exact Nat.mul_lt_mul_of_pos_right hX (by decide)
    have l3 := T_len hX2
    have hw := limbN_lt (by decide) hd j
    have l4 := T_len (x := limbN l j) (n := 1) (by rw [Nat.pow_one]; exact hw)
    have e3 : X * 65536 * 65536 + limbN l j = limbN l j + 4294967296 * X := by omega
    obtain ⟨X1, x1⟩ : ∃ X1, X * 65536 = X1 := ⟨_, rfl⟩
    rw [x1] at e3 l2 l3
    obtain ⟨X2, x2⟩ : ∃ X2, X1 * 65536 = X2 := ⟨_, rfl⟩
    rw [x2] at e3 l3
    have t1 := times_lit (x := X) (by omega)
    rw [x1] at t1
    have t2 := times_lit (x := X1) (by omega)
    rw [x2] at t2
    rw [← e3] at ih
    have s3 := Ev.bind (f := fun k t => r1Of.l0 k l t ((j : Int) - 1)) (add_ev (x := X2) (y := limbN l j) (by omega) (by omega)) ih
    have s2 := Ev.bind (f := fun k t => (r1Add.f k (digB 10000 X2) t).bind fun u => r1Of.l0 k l u ((j : Int) - 1)) (small_ev (v := limbN l j) (by omega)) s3
    have s1 := Ev.bind (f := fun k t => (r1Sm.f k ((limbN l j : Nat) : Int)).bind fun v => (r1Add.f k t v).bind fun u => r1Of.l0 k l u ((j : Int) - 1)) t2 s2
    have s0 := Ev.bind (f := fun k s => (r1Times.f k s 65536).bind fun t => (r1Sm.f k ((limbN l j : Nat) : Int)).bind fun v => (r1Add.f k t v).bind fun u => r1Of.l0 k l u ((j : Int) - 1)) t1 s1
    have p0 : (0 : Int) ≤ (j : Int) := by omega
    have p1 : (j : Int) < (l.length : Int) := by omega
    have p2 : wrap64 ((j : Int) - 1) = (j : Int) - 1 := w64 (by omega) (by omega)
    have p3 : wrap64 ((limbN l j : Nat) : Int) = ((limbN l j : Nat) : Int) := w64n (by omega)
    have p4 : ((j + 1 : Nat) : Int) - 1 = (j : Int) := by omega
    refine Ev.step (fun k => ?_) s0
    simp only [r1Of.l0, p4, ge_iff_le, if_pos p0, if_pos p1, rd_limb hd, p2, p3]
theorem of_ev {l : List Int} (hd : DigB 4294967296 l) (hl : l.length ≤ 100000) : Ev (fun k => r1Of.f k l) (digB 10000 (valB 4294967296 l)) := by
  have h := of_loop hd hl l.length (by omega)
  rw [List.drop_length, show valB 4294967296 [] = 0 from rfl, digB_zero _ (by decide)] at h
  refine Ev.congr (fun k => ?_) h
  unfold r1Of.f
  rw [w64 (by omega) (by omega)]
theorem cmp_loop {a b : List Int} (da : DigB 10000 a) (db : DigB 10000 b) (hl : a.length = b.length) (h9 : a.length ≤ 4611686018427387904) : ∀ i : Nat, i ≤ a.length → (∀ j, i ≤ j → j < a.length → limbN a j = limbN b j) →
    Ev (fun k => r1Cmp.l0 k a b ((i : Int) - 1)) (cmpN (valB 10000 a) (valB 10000 b))
  | 0, _, he => by
    have e : valB 10000 a = valB 10000 b := by
      rw [← sumB_limb a a.length (by omega), ← sumB_limb b a.length (by omega)]
      exact sumB_congr (fun j hj => he j (by omega) hj)
    refine Ev.step (f := fun _ => some (cmpN (valB 10000 a) (valB 10000 b))) (fun k => ?_) (Ev.now _)
    simp only [r1Cmp.l0]
    rw [if_neg (by omega), e]; unfold cmpN; simp
  | j + 1, hj, he => by
    have hlt : ∀ {x y : List Int}, DigB 10000 x → DigB 10000 y → x.length = a.length → y.length = a.length → (∀ t, j + 1 ≤ t → t < a.length → limbN x t = limbN y t) → limbN x j < limbN y j → valB 10000 x < valB 10000 y := by
      intro x y dx dy lx ly hxy hc
      rw [← sumB_limb x a.length (by omega), ← sumB_limb y a.length (by omega)]
      exact sum_lt (by decide) (limb_lt dx) a.length j (by omega) (fun t ht h2 => hxy t (by omega) h2) hc
    have pre : ∀ k, r1Cmp.l0 (k + 1) a b (((j + 1 : Nat) : Int) - 1) = if ((limbN a j : Nat) : Int) < ((limbN b j : Nat) : Int) then some (-1) else if ((limbN a j : Nat) : Int) > ((limbN b j : Nat) : Int) then some 1 else r1Cmp.l0 k a b ((j : Int) - 1) := by
      intro k
      simp only [r1Cmp.l0]
      rw [show ((j + 1 : Nat) : Int) - 1 = (j : Int) by omega, if_pos (by omega), if_pos (by omega), if_pos (by omega), if_pos (by omega), rd_limb da, rd_limb db, w64 (by omega) (by omega)]
    rcases Nat.lt_trichotomy (limbN a j) (limbN b j) with c | c | c
    · have := hlt da db rfl hl.symm he c
      refine Ev.step (f := fun _ => some (-1)) (fun k => by rw [pre, if_pos (by omega)]) ?_
      unfold cmpN; rw [if_pos this]; exact Ev.now _
    · refine Ev.step (fun k => by rw [pre, if_neg (by omega), if_neg (by omega)]) (cmp_loop da db hl h9 j (by omega) (fun t h1 h2 => ?_))
      rcases Nat.eq_or_lt_of_le h1 with h | h
      · rw [← h]; exact c
      · exact he t h h2
    · have := hlt db da hl.symm rfl (fun t h1 h2 => (he t h1 h2).symm) c
      refine Ev.step (f := fun _ => some 1) (fun k => by rw [pre, if_neg (by omega), if_pos (by omega)]) ?_
      unfold cmpN; rw [if_neg (by omega), if_pos this]; exact Ev.now _
theorem good_lt {a b : List Int} (ga : GoodB 10000 a) (gb : GoodB 10000 b) (h : a.length < b.length) : valB 10000 a < valB 10000 b := by
  have h1 := valB_lt 10000 a ga.dig
  have h2 := gb.len_lt (fun e => by rw [e] at h; simp at h)
  exact Nat.lt_of_lt_of_le h1 (Nat.le_trans (Nat.pow_le_pow_right (by decide) (by omega)) h2)
theorem cmp_good {a b : List Int} (ga : GoodB 10000 a) (gb : GoodB 10000 b) (h9 : a.length ≤ 4611686018427387904) : Ev (fun k => r1Cmp.f k a b) (cmpN (valB 10000 a) (valB 10000 b)) := by
  rcases Nat.lt_trichotomy a.length b.length with c | c | c
  · have := good_lt ga gb c
    refine Ev.congr (f := fun _ => some (-1)) (fun k => ?_) (by unfold cmpN; rw [if_pos this]; exact Ev.now _)
    unfold r1Cmp.f; rw [if_neg (by omega), if_pos (by omega)]
  · refine Ev.congr (fun k => ?_) (cmp_loop ga.dig gb.dig c h9 a.length (by omega) (fun j h1 h2 => by omega))
    unfold r1Cmp.f; rw [if_pos (by omega), w64 (by omega) (by omega)]
  · have := good_lt gb ga c
    refine Ev.congr (f := fun _ => some 1) (fun k => ?_) (by unfold cmpN; rw [if_neg (by omega), if_pos this]; exact Ev.now _)
    unfold r1Cmp.f; rw [if_neg (by omega), if_neg (by omega)]
theorem cmp_ev (x y : Nat) (h9 : (digB 10000 x).length ≤ 4611686018427387904) : Ev (fun k => r1Cmp.f k (digB 10000 x) (digB 10000 y)) (cmpN x y) := by
  have := cmp_good (T_good x) (T_good y) h9
  rwa [T_val, T_val] at this
theorem canon_f {l : List Int} (h : GoodB 4294967296 l) (h9 : l.length ≤ 4611686018427387904) : fluxionref01_Canonical.f l = some true := by
  unfold fluxionref01_Canonical.f
  by_cases c : l.length = 0
  · rw [if_pos (by omega)]
  · rw [if_neg (by omega), w64 (by omega) (by omega), if_pos (by omega), if_pos (by omega)]
    have e : ((l.length : Int) - 1) = ((l.length - 1 : Nat) : Int) := by omega
    have hp := top_pos h (m := l.length - 1) (by omega)
    rw [e, rd_limb h.dig]
    congr 1
    rw [bne_iff_ne]; omega
theorem is_ev {x y n : Nat} (hy : y < 4294967296 ^ n) (hn : n ≤ 50000) : Ev (fun k => r1Is.f k (digB 10000 x) (digB 4294967296 y)) (decide (x = y)) := by
  have g := digB_good 4294967296 (by decide) y
  have hl : (digB 4294967296 y).length ≤ n := digB_len (by decide) hy
  have ho := of_ev g.dig (by omega)
  rw [digB_val _ (by decide)] at ho
  have l1 := T_len hy
  refine Ev.congr (fun k => ?_) (Ev.bind ho (f := fun k t => (r1Cmp.f k t (digB 10000 x)).bind fun u => some (u == 0)) (Ev.bind (cmp_ev y x (by omega)) ?_))
  · unfold r1Is.f
    rw [canon_f g (by omega), Option.bind_some, if_pos rfl]
  · have : (cmpN y x == 0) = decide (x = y) := by
      unfold cmpN
      rcases Nat.lt_trichotomy x y with c | c | c
      · rw [if_neg (by omega), if_pos c, decide_eq_false (by omega)]; rfl
      · subst c; simp
      · rw [if_pos c, decide_eq_false (by omega)]; rfl
    rw [this]; exact Ev.now _
end Go.Proofs.YthppjdmkinbccaaGreatDoor.Ref

namespace Go.Proofs.YthppjdmkinbccaaGreatDoor.Print
open Go.RowKit Go.Proofs.YthppjdmkinbccaaGreatDoorW.PrintWords Go.Proofs.YthppjdmkinbccaaGreatDoorW.PrintLast Go.Proofs.YthppjdmkinbccaaGreatDoorW.PrintMore
attribute [local go_sem] max2_int min2_int max_two min_two max_three min_three max_four min_four   -- for this text's walks alone
set_option linter.unusedVariables false
set_option linter.unusedSimpArgs false
mutual
def r4N.l0 : Nat → List Int → ByteArray → Int → Option (ByteArray)
 | 0, _, _, _ => none
 | k + 1, x0, x3, x4 => if x4 ≥ 0 then (if 0 ≤ x4 then (if x4 < (x0.length : Int) then ((fluxionref04_four.f (rd x0 x4)).bind fun t256 => (if x3.size + t256.size ≤ 9223372036854775807 then (r4N.l0 k x0 (x3 ++ t256) (wrap64 (x4 - 1))) else (none))) else (none)) else (none)) else (r4N.l1 k x3 0)
def r4N.l1 : Nat → ByteArray → Int → Option (ByteArray)
 | 0, _, _ => none
 | k + 1, x3, x5 => if 0 ≤ x5 then (if x5 < (x3.size : Int) then (if (bt x3 x5) = 48 then (r4N.l1 k x3 (wrap64 (x5 + 1))) else (if x5 ≤ (x3.size : Int) then (some (x3.extract (x5 : Int).toNat x3.size)) else (none))) else (none)) else (none)
end
def r4N.f (k : Nat) (l0 : List Int) : Option (ByteArray) := if (l0.length : Int) = 0 then (some (⟨#[48]⟩ : ByteArray)) else (r4N.l0 k l0 (⟨#[]⟩ : ByteArray) (wrap64 ((l0.length : Int) - 1)))
def r4nat.l0 : Nat → ByteArray → Int → Option (Bool)
 | 0, _, _ => none
 | k + 1, x0, x3 => if x3 < (x0.size : Int) then (if 0 ≤ x3 then (if (bt x0 x3) < 48 then (some false) else (if (bt x0 x3) > 57 then (some false) else (r4nat.l0 k x0 (wrap64 (x3 + 1))))) else (none)) else (if (x0.size : Int) > 0 then (if 0 < (x0.size : Int) then (if (bt x0 0) = 48 then (some ((x0.size : Int) == 1)) else (some true)) else (none)) else (some false))
def r4nat.f (k : Nat) (a0 : ByteArray) : Option (Bool) := r4nat.l0 k a0 0
end Go.Proofs.YthppjdmkinbccaaGreatDoor.Print

namespace Go.Proofs.YthppjdmkinbccaaGreatDoor.Print
open Go.RowKit Go.Proofs.YthppjdmkinbccaaGreatDoorW.PrintWords Go.Proofs.YthppjdmkinbccaaGreatDoorW.PrintLast Go.Proofs.YthppjdmkinbccaaGreatDoorW.PrintMore
attribute [local go_sem] max2_int min2_int max_two min_two max_three min_three max_four min_four   -- for this text's walks alone
set_option linter.unusedVariables false
set_option linter.unusedSimpArgs false
def r4nr.l0 : Nat → ByteArray → List Int → Int → Option (List Int)
 | 0, _, _, _ => none
 | k + 1, x0, x3, x4 => if x4 < (x0.size : Int) then ((r1Times.f k x3 10).bind fun t257 => (if 0 ≤ x4 then ((r1Sm.f k (wrap64 ((wrap64 (bt x0 x4)) - 48))).bind fun t260 => ((r1Add.f k t257 t260).bind fun t263 => (r4nr.l0 k x0 t263 (wrap64 (x4 + 1))))) else (none))) else (some x3)
def r4nr.f (k : Nat) (a0 : ByteArray) : Option (List Int) := r4nr.l0 k a0 ([] : List Int) 0
def r4PN.f (k : Nat) (a0 : ByteArray) : Option (List Int × Int) := (r4nat.f k a0).bind fun t266 => (if t266 = true then (if (a0.size : Int) > 400 then (some (([] : List Int), 14)) else ((r4nr.f k a0).bind fun t267 => ((r1B.f k t267).bind fun t270 => (if t270 > 1024 then (some (([] : List Int), 14)) else (some (t267, 0)))))) else (some (([] : List Int), 19)))
def r4R.j0 : Nat → ByteArray → Bool → List Int → List Int → Option (ByteArray)
 | 0, _, _, _, _ => none
 | k + 1, x3, x272000, x272001, x272002 => (r4N.f k x272002).bind fun t273 => (if t273.toList = ([49] : List UInt8) then (some x3) else (if x3.size + 1 ≤ 9223372036854775807 then (if (x3 ++ (⟨#[47]⟩ : ByteArray)).size + t273.size ≤ 9223372036854775807 then (some ((x3 ++ (⟨#[47]⟩ : ByteArray)) ++ t273)) else (none)) else (none)))
def r4R.f (k : Nat) (a0_0 : Bool) (l0_1 : List Int) (l0_2 : List Int) : Option (ByteArray) := (r4N.f k l0_1).bind fun t272 => (if a0_0 = true then (if 1 + t272.size ≤ 9223372036854775807 then (r4R.j0 k ((⟨#[45]⟩ : ByteArray) ++ t272) a0_0 l0_1 l0_2) else (none)) else (r4R.j0 k t272 a0_0 l0_1 l0_2))
end Go.Proofs.YthppjdmkinbccaaGreatDoor.Print

namespace Go.Proofs.YthppjdmkinbccaaGreatDoor.Ref
open Go.RowKit Go.Proofs.YthppjdmkinbccaaGreatDoorW.PrintWords Go.Proofs.YthppjdmkinbccaaGreatDoorW.PrintLast Go.Proofs.YthppjdmkinbccaaGreatDoor.Print Go.Proofs.YthppjdmkinbccaaGreatDoor.Base
set_option linter.unusedVariables false
set_option linter.unusedSimpArgs false
structure Quot (B V : Nat) (l out : List Int) (i : Nat) : Prop where
  len : out.length = l.length
  dig : DigB B out
  low : ∀ t, t < i → limbN out t = 0
  val : valB B out = B ^ i * (valB B (l.drop i) / V)
theorem Quot.start {B V : Nat} (hB : 0 < B) (l : List Int) : Quot B V l (List.replicate l.length 0) l.length := by
  refine ⟨by simp, DigB.zeros B hB _, fun t _ => ?_, by rw [valB_zeros, List.drop_length, valB_nil, Nat.zero_div, Nat.mul_zero]⟩
  unfold limbN
  rcases Nat.lt_or_ge t l.length with c | c
  · simp [c]
  · simp [Nat.not_lt.2 c]
theorem quot_step {B V d X : Nat} (hV : 0 < V) (hd : d < B) : (d + B * X) / V = B * (X / V) + (X % V * B + d) / V ∧ (d + B * X) % V = (X % V * B + d) % V ∧ (X % V * B + d) / V < B := by
  have e : d + B * X = (X % V * B + d) + V * (B * (X / V)) := by
    have h := Nat.mod_add_div X V
    have h2 : B * X = B * (X % V) + B * (V * (X / V)) := by rw [← Nat.mul_add, h]
    rw [h2, Nat.mul_left_comm B V, Nat.mul_comm B (X % V)]; omega
  refine ⟨by rw [e, Nat.add_mul_div_left _ _ hV]; omega, by rw [e, Nat.add_mul_mod_self_left], ?_⟩
  refine Nat.div_lt_of_lt_mul ?_
  have h1 : X % V + 1 ≤ V := Nat.mod_lt X hV
  have h2 := Nat.mul_le_mul_right B h1
  rw [Nat.add_mul, Nat.one_mul] at h2
  omega
theorem Quot.next {B V : Nat} {l out : List Int} {i : Nat} (h : Quot B V l out (i + 1)) (hB : 0 < B) (hV : 0 < V) (hl : DigB B l) (hi : i < l.length) {q : Int}
    (hq : q = (((valB B (l.drop (i + 1)) % V * B + limbN l i) / V : Nat) : Int)) : Quot B V l (out.set i q) i := by
  obtain ⟨h1, h2, h3⟩ := quot_step (X := valB B (l.drop (i + 1))) hV (limbN_lt hB hl i)
  have hio : i < out.length := by rw [h.len]; exact hi
  refine ⟨by rw [List.length_set]; exact h.len, fun x hx => ?_, fun t ht => ?_, ?_⟩
  · rcases List.mem_or_eq_of_mem_set hx with hx | hx
    · exact h.dig x hx
    · rw [hx, hq]; exact ⟨Int.natCast_nonneg _, Int.ofNat_lt.2 h3⟩
  · have := h.low t (by omega)
    unfold limbN at this ⊢
    simpa [show i ≠ t by omega] using this
  · have hs := valB_set (B := B) out i hio q
    have h0 := h.low i (by omega)
    unfold limbN at h0
    rw [h0, Nat.mul_zero, Nat.add_zero, h.val, hq, Int.toNat_natCast] at hs
    rw [hq, hs, valB_drop hi, h1, Nat.pow_succ, Nat.mul_add, Nat.mul_assoc]
theorem Quot.done {V : Nat} {l out : List Int} (h : Quot 10000 V l out 0) : valB 10000 out = valB 10000 l / V := by
  have := h.val
  rwa [Nat.pow_zero, Nat.one_mul, List.drop_zero] at this
theorem Quot.rest {B V : Nat} {l : List Int} {i : Nat} (hB : 0 < B) (hV : 0 < V) (hl : DigB B l) (hi : i < l.length) : valB B (l.drop i) % V = (valB B (l.drop (i + 1)) % V * B + limbN l i) % V := by
  rw [valB_drop hi]; exact (quot_step hV (limbN_lt hB hl i)).2.1
theorem short_loop {l : List Int} (hl : DigB 10000 l) (h9 : l.length ≤ 1000000) {d : Nat} (d0 : 0 < d) (d1 : d ≤ 4294967296) : ∀ (i : Nat) (out : List Int), i ≤ l.length → Quot 10000 d l out i →
    Ev (fun k => r1S.l0 k l (d : Int) out ((valB 10000 (l.drop i) % d : Nat) : Int) ((i : Int) - 1)) (digB 10000 (valB 10000 l / d), ((valB 10000 l % d : Nat) : Int))
  | 0, out, _, hq => by
    have ht := trim_ev hq.dig (by rw [hq.len]; omega)
    rw [hq.done] at ht
    refine Ev.step (fun k => ?_) (Ev.bind (f := fun _ t => some (t, ((valB 10000 l % d : Nat) : Int))) ht (Ev.now _))
    simp only [r1S.l0]
    rw [if_neg (by omega), List.drop_zero]
  | j + 1, out, hj, hq => by
    have hlim := limb_lt hl j
    have hr := Nat.mod_lt (valB 10000 (l.drop (j + 1))) d0
    have ih := short_loop hl h9 d0 d1 j _ (by omega) (hq.next (by decide) d0 hl (by omega) rfl)
    rw [Quot.rest (by decide) d0 hl (show j < l.length by omega)] at ih
    refine Ev.step (fun k => ?_) ih
    simp only [r1S.l0]
    have e1 : wrap64 ((wrap64 (((valB 10000 (l.drop (j + 1)) % d : Nat) : Int) * 10000)) + ((limbN l j : Nat) : Int)) = ((valB 10000 (l.drop (j + 1)) % d * 10000 + limbN l j : Nat) : Int) := by
      rw [show (10000 : Int) = ((10000 : Nat) : Int) from rfl, ← Int.natCast_mul, w64n (by omega), ← Int.natCast_add, w64n (by omega)]
    have hlt : (valB 10000 (l.drop (j + 1)) % d * 10000 + limbN l j) / d ≤ 9223372036854775807 := Nat.le_trans (Nat.div_le_self _ _) (by omega)
    rw [show ((j + 1 : Nat) : Int) - 1 = (j : Int) by omega, if_pos (by omega), if_pos (by omega), if_pos (by omega), if_neg (by omega), if_pos (by rw [hq.len]; omega), rd_limb hl, e1, tdiv_nat, tmod_nat, w64n hlt, w64 (by omega) (by omega), Int.toNat_natCast]
theorem short_ev {x d : Nat} (hx : (digB 10000 x).length ≤ 1000000) (d0 : 0 < d) (d1 : d ≤ 4294967296) : Ev (fun k => r1S.f k (digB 10000 x) (d : Int)) (digB 10000 (x / d), ((x % d : Nat) : Int)) := by
  have h := short_loop (T_good x).dig hx d0 d1 (digB 10000 x).length _ (by omega) (Quot.start (by decide) _)
  rw [T_val, List.drop_length, show valB 10000 [] % d = 0 by rw [valB_nil]; exact Nat.zero_mod d] at h
  refine Ev.congr (fun k => ?_) h
  unfold r1S.f
  rw [if_pos (by omega), if_pos (by omega), Int.toNat_natCast, w64 (by omega) (by omega)]; rfl
def nb (x : Nat) : Nat := if x = 0 then 0 else x.log2 + 1
theorem nb_half {x : Nat} (h : 0 < x) : nb x = nb (x / 2) + 1 := by
  unfold nb
  rw [if_neg (by omega)]
  by_cases h1 : x = 1
  · subst h1; rfl
  · rw [if_neg (by omega), show x.log2 = (x / 2).log2 + 1 by rw [Nat.log2_def x, if_pos (by omega)]]
theorem nb_le {x n : Nat} : nb x ≤ n ↔ x < 2 ^ n := by
  unfold nb
  by_cases h : x = 0
  · rw [if_pos h, h]; exact ⟨fun _ => Nat.pow_pos (by decide), fun _ => Nat.zero_le _⟩
  · rw [if_neg h, ← Nat.log2_lt h]; omega
theorem bits_loop : ∀ (n x c : Nat), x < 2 ^ n → (digB 10000 x).length ≤ 1000000 → c + n ≤ 1000000000 → Ev (fun k => r1B.l0 k (digB 10000 x) (c : Int)) ((c + nb x : Nat) : Int)
  | 0, x, c, h, _, _ => by
    obtain rfl : x = 0 := by simpa using h
    rw [digB_zero _ (by decide)]
    refine Ev.step (f := fun _ => some ((c : Nat) : Int)) (fun k => ?_) (Ev.now _)
    simp only [r1B.l0]; rw [if_neg (by simp)]
  | n + 1, x, c, h, hl, hc => by
    by_cases h0 : x = 0
    · subst h0
      rw [digB_zero _ (by decide)]
      refine Ev.step (f := fun _ => some ((c : Nat) : Int)) (fun k => ?_) (Ev.now _)
      simp only [r1B.l0]; rw [if_neg (by simp)]
    · have ih := bits_loop n (x / 2) (c + 1) (Nat.div_lt_of_lt_mul (by rw [Nat.pow_succ, Nat.mul_comm] at h; exact h)) (Nat.le_trans (T_len_le (Nat.div_le_self x 2)) hl) (by omega)
      have hs := short_ev hl (d := 2) (by decide) (by decide)
      rw [show ((2 : Nat) : Int) = 2 from rfl] at hs
      have hne : 0 < (digB 10000 x).length := Nat.pos_of_ne_zero (fun e => h0 ((digB_nil x).1 (List.eq_nil_of_length_eq_zero e)))
      rw [show c + nb x = c + 1 + nb (x / 2) by rw [nb_half (by omega)]; omega]
      refine Ev.step (fun k => ?_) (Ev.bind (f := fun k bt => r1B.l0 k bt.1 ((c + 1 : Nat) : Int)) hs ih)
      simp only [r1B.l0]
      rw [if_pos (by omega), w64 (by omega) (by omega)]; rfl
theorem bits_ev {x n : Nat} (h : x < 2 ^ n) (hl : (digB 10000 x).length ≤ 1000000) (hn : n ≤ 1000000000) : Ev (fun k => r1B.f k (digB 10000 x)) ((nb x : Nat) : Int) := by
  have := bits_loop n x 0 h hl (by omega)
  rw [Nat.zero_add] at this
  exact this
def bA (l : List UInt8) : ByteArray := ⟨l.toArray⟩
theorem bA_size (l : List UInt8) : (bA l).size = l.length := rfl
theorem bA_append (a b : List UInt8) : bA a ++ bA b = bA (a ++ b) := by
  refine Go.WideShapes.bytes_inj ?_
  rw [ByteArray.data_append, Array.toList_append]; simp [bA]
theorem limbs_most (n a : Nat) (h : n = a * 32) (ha : a = 32) : (4294967296 : Nat) ^ 32 = 2 ^ n := by
  rw [h, Nat.pow_mul, ha]
def refNat (l : List UInt8) : List Int × Int := if natB l = true then (if 400 < l.length then ([], 14) else if numD l < 4294967296 ^ 32 then (digB 10000 (numD l), 0) else ([], 14)) else ([], 19)
end Go.Proofs.YthppjdmkinbccaaGreatDoor.Ref

namespace Go.Proofs.YthppjdmkinbccaaGreatDoor.Ref
open Go.RowKit Go.Proofs.YthppjdmkinbccaaGreatDoorW.PrintWords Go.Proofs.YthppjdmkinbccaaGreatDoorW.PrintLast Go.Proofs.YthppjdmkinbccaaGreatDoor.Print Go.Proofs.YthppjdmkinbccaaGreatDoor.Base
set_option linter.unusedVariables false
set_option linter.unusedSimpArgs false
theorem valB_snoc (B : Nat) (l : List Int) (d : Int) : valB B (l ++ [d]) = valB B l + B ^ l.length * d.toNat := by
  rw [valB_append, valB_cons, valB_nil, Nat.mul_zero, Nat.add_zero]
theorem sub_loop {a b : List Int} (da : DigB 10000 a) (db : DigB 10000 b) (hl : b.length ≤ a.length) (h9 : a.length ≤ 1000000) (hle : valB 10000 b ≤ valB 10000 a) : ∀ (m i : Nat) (acc : List Int) (less : Nat), i + m = a.length → acc.length = i → DigB 10000 acc → less ≤ 1 →
    valB 10000 acc + sumB 10000 (limbN b) i = sumB 10000 (limbN a) i + 10000 ^ i * less →
    Ev (fun k => r1Sub.l0 k a b acc (less : Int) (i : Int)) (digB 10000 (valB 10000 a - valB 10000 b), true) := by
  intro m
  induction m with
  | zero =>
    intro i acc less hi hac dac hless inv
    rw [sumB_limb b i (by omega), sumB_limb a i (by omega)] at inv
    have hlt := valB_lt 10000 acc dac
    rw [hac] at hlt
    have h0 : less = 0 := by
      rcases Nat.eq_zero_or_pos less with h | h
      · exact h
      · exfalso
        have : less = 1 := by omega
        rw [this, Nat.mul_one] at inv
        omega
    rw [h0, Nat.mul_zero, Nat.add_zero] at inv
    have ht := trim_ev dac (by omega)
    rw [show valB 10000 acc = valB 10000 a - valB 10000 b by omega] at ht
    refine Ev.step (fun k => ?_) (Ev.bind (f := fun _ t => some (t, true)) ht (Ev.now _))
    simp only [r1Sub.l0]
    rw [if_neg (by omega)]
  | succ m ih =>
    intro i acc less hi hac dac hless inv
    have h1 := limb_lt da i
    have h2 := limb_lt db i
    have e1 : wrap64 (wrap64 (((limbN a i : Nat) : Int) - ((limbN b i : Nat) : Int)) - (less : Int)) = ((limbN a i : Nat) : Int) - ((limbN b i : Nat) : Int) - (less : Int) := by
      rw [w64 (x := ((limbN a i : Nat) : Int) - ((limbN b i : Nat) : Int)) (by omega) (by omega), w64 (by omega) (by omega)]
    have eb : sumB 10000 (limbN b) (i + 1) = sumB 10000 (limbN b) i + 10000 ^ i * limbN b i := rfl
    have ea : sumB 10000 (limbN a) (i + 1) = sumB 10000 (limbN a) i + 10000 ^ i * limbN a i := rfl
    have step : ∀ (d l2 : Nat), d < 10000 → l2 ≤ 1 → d + limbN b i + less = limbN a i + 10000 * l2 → Ev (fun k => r1Sub.l0 k a b (acc ++ [(d : Int)]) (l2 : Int) ((i + 1 : Nat) : Int)) (digB 10000 (valB 10000 a - valB 10000 b), true) := by
      intro d l2 hd hl2 he
      refine ih (i + 1) _ l2 (by omega) (by simp [hac]) (dac.append (DigB.cons (by omega) (by omega) (DigB.nil _))) hl2 ?_
      rw [valB_snoc, hac, Int.toNat_natCast, eb, ea, Nat.pow_succ, Nat.mul_assoc]
      have h3 := congrArg (10000 ^ i * ·) he
      simp only [Nat.mul_add] at h3
      omega
    by_cases c : limbN a i < limbN b i + less
    · have hs := step (limbN a i + 10000 - limbN b i - less) 1 (by omega) (by omega) (by omega)
      refine Ev.step (fun k => ?_) hs
      simp only [r1Sub.l0]
      rw [if_pos (by omega), if_pos (by omega), digit_f db, Option.bind_some, rd_limb da, e1, if_pos (by omega), if_pos (by omega), w64 (by omega) (by omega), w64 (by omega) (by omega),
        show ((limbN a i : Nat) : Int) - ((limbN b i : Nat) : Int) - (less : Int) + 10000 = ((limbN a i + 10000 - limbN b i - less : Nat) : Int) by omega]
      rfl
    · have hs := step (limbN a i - limbN b i - less) 0 (by omega) (by omega) (by omega)
      refine Ev.step (fun k => ?_) hs
      simp only [r1Sub.l0]
      rw [if_pos (by omega), if_pos (by omega), digit_f db, Option.bind_some, rd_limb da, e1, if_neg (by omega), if_pos (by omega), w64 (by omega) (by omega),
        show ((limbN a i : Nat) : Int) - ((limbN b i : Nat) : Int) - (less : Int) = ((limbN a i - limbN b i - less : Nat) : Int) by omega]
      rfl
theorem sub_ev {x y : Nat} (hx : (digB 10000 x).length ≤ 1000000) (h : y ≤ x) : Ev (fun k => r1Sub.f k (digB 10000 x) (digB 10000 y)) (digB 10000 (x - y), true) := by
  have hs := sub_loop (T_good x).dig (T_good y).dig (T_len_le h) hx (by rw [T_val, T_val]; exact h) (digB 10000 x).length 0 [] 0 (by omega) rfl (DigB.nil _) (by omega) rfl
  rw [T_val, T_val] at hs
  refine Ev.congr (fun k => rfl) (Ev.bind (f := fun k t => if t < 0 then some (([] : List Int), false) else r1Sub.l0 k (digB 10000 x) (digB 10000 y) [] 0 0) (cmp_ev x y (by omega)) ?_)
  refine Ev.congr (fun k => ?_) hs
  rw [if_neg (by unfold cmpN; rw [if_neg (by omega)]; split <;> omega)]; rfl
theorem digit2_loop {r y : Nat} (hy : (digB 10000 y).length ≤ 900000) : ∀ (m low high : Nat), high - low ≤ m → low < high → high ≤ 10000 → low * y ≤ r → r < high * y → Ev (fun k => r2d.l0 k (digB 10000 r) (digB 10000 y) (low : Int) (high : Int)) ((r / y : Nat) : Int) := by
  intro m
  induction m with
  | zero => intro low high h1 h2; omega
  | succ m ih =>
    intro low high h1 h2 h3 h4 h5
    by_cases c : high - low ≤ 1
    · have e : high = low + 1 := by omega
      subst e
      have hy0 : 0 < y := Nat.pos_of_ne_zero (fun h => by rw [h, Nat.mul_zero] at h5; omega)
      have hq : r / y = low := by
        rw [Nat.div_eq_iff hy0]
        rw [Nat.add_mul, Nat.one_mul] at h5
        omega
      rw [hq]
      refine Ev.step (f := fun _ => some ((low : Nat) : Int)) (fun k => ?_) (Ev.now _)
      simp only [r2d.l0]
      rw [w64 (by omega) (by omega), if_neg (by omega)]
    · have ht := times_ev (x := y) (d := (low + high) / 2) (by omega) (by omega)
      have hyb := valB_lt 10000 _ (T_good y).dig
      rw [T_val] at hyb
      have hl : (digB 10000 (y * ((low + high) / 2))).length ≤ (digB 10000 y).length + 1 := by
        refine digB_len (by decide) ?_
        rw [Nat.pow_succ]
        exact Nat.lt_of_lt_of_le (Nat.mul_lt_mul_of_pos_right hyb (by omega)) (Nat.mul_le_mul_left _ (by omega))
      have hc := cmp_ev (y * ((low + high) / 2)) r (by omega)
      have e1 : wrap64 (Int.tdiv (wrap64 ((low : Int) + (high : Int))) 2) = (((low + high) / 2 : Nat) : Int) := by
        rw [← Int.natCast_add, w64n (by omega), show (2 : Int) = ((2 : Nat) : Int) from rfl, tdiv_nat, w64n (by omega)]
      have fin : Ev (fun k => if cmpN (y * ((low + high) / 2)) r ≤ 0 then r2d.l0 k (digB 10000 r) (digB 10000 y) (((low + high) / 2 : Nat) : Int) (high : Int) else r2d.l0 k (digB 10000 r) (digB 10000 y) (low : Int) (((low + high) / 2 : Nat) : Int)) ((r / y : Nat) : Int) := by
        by_cases g : y * ((low + high) / 2) ≤ r
        · refine Ev.congr (fun k => ?_) (ih ((low + high) / 2) high (by omega) (by omega) h3 (by rw [Nat.mul_comm]; exact g) h5)
          rw [if_pos (by unfold cmpN; split; · omega
                         · rw [if_neg (by omega)]; omega)]
        · refine Ev.congr (fun k => ?_) (ih low ((low + high) / 2) (by omega) (by omega) (by omega) h4 (by rw [Nat.mul_comm]; omega))
          rw [if_neg (by unfold cmpN; rw [if_neg (by omega), if_pos (by omega)]; omega)]
      refine Ev.step (fun k => ?_) (Ev.bind (f := fun k t => (r1Cmp.f k t (digB 10000 r)).bind fun u => if u ≤ 0 then r2d.l0 k (digB 10000 r) (digB 10000 y) (((low + high) / 2 : Nat) : Int) (high : Int) else r2d.l0 k (digB 10000 r) (digB 10000 y) (low : Int) (((low + high) / 2 : Nat) : Int)) ht (Ev.bind (f := fun k u => if u ≤ 0 then r2d.l0 k (digB 10000 r) (digB 10000 y) (((low + high) / 2 : Nat) : Int) (high : Int) else r2d.l0 k (digB 10000 r) (digB 10000 y) (low : Int) (((low + high) / 2 : Nat) : Int)) hc fin))
      simp only [r2d.l0]
      rw [w64 (by omega) (by omega), if_pos (by omega), e1]
theorem digit2_ev {r y : Nat} (hy : (digB 10000 y).length ≤ 900000) (h : r < 10000 * y) : Ev (fun k => r2d.f k (digB 10000 r) (digB 10000 y)) ((r / y : Nat) : Int) :=
  digit2_loop hy 10000 0 10000 (by omega) (by omega) (by omega) (by omega) h
theorem trim2_loop (l : List Int) (hl : l.length ≤ 4611686018427387904) : ∀ i : Nat, i ≤ l.length → Ev (fun k => r2t.l0 k l (i : Int)) (trimL (l.take i))
  | 0, _ => by
    refine Ev.step (f := fun _ => some []) (fun k => ?_) (Ev.now _)
    simp only [r2t.l0]
    rw [if_neg (by omega), if_pos (by omega), if_pos (by omega)]; rfl
  | i + 1, hi => by
    have hw : wrap64 (((i + 1 : Nat) : Int) - 1) = (i : Int) := by rw [w64 (by omega) (by omega)]; omega
    rw [take_snoc (by omega)]
    by_cases h0 : rd l (i : Int) = 0
    · rw [h0, trimL_snoc_zero]
      refine Ev.step (fun k => ?_) (trim2_loop l hl i (by omega))
      simp only [r2t.l0]
      rw [hw, if_pos (by omega), if_pos (by omega), if_pos (by omega), if_pos h0]
    · rw [trimL_snoc _ _ h0]
      refine Ev.step (f := fun _ => some (l.take (i + 1))) (fun k => ?_) (by rw [take_snoc (by omega)]; exact Ev.now _)
      simp only [r2t.l0]
      rw [hw, if_pos (by omega), if_pos (by omega), if_pos (by omega), if_neg h0, if_pos (by omega), if_pos (by omega)]; rfl
theorem trim2_ev {l : List Int} (hd : DigB 10000 l) (hl : l.length ≤ 4611686018427387904) : Ev (fun k => r2t.f k l) (digB 10000 (valB 10000 l)) := by
  have h := trim2_loop l hl l.length (by omega)
  rw [List.take_length, trimL_eq (by decide) hd] at h
  exact h
theorem div_loop {x : List Int} (dx : DigB 10000 x) (h9 : x.length ≤ 800000) {y : Nat} (hy : (digB 10000 y).length ≤ 800000) (y0 : 0 < y) : ∀ (i : Nat) (out : List Int), i ≤ x.length → Quot 10000 y x out i →
    Ev (fun k => r2DM.l0 k x (digB 10000 y) out (digB 10000 (valB 10000 (x.drop i) % y)) ((i : Int) - 1)) (digB 10000 (valB 10000 x / y), digB 10000 (valB 10000 x % y))
  | 0, out, _, hq => by
    have ht := trim2_ev hq.dig (by rw [hq.len]; omega)
    rw [hq.done] at ht
    refine Ev.step (fun k => ?_) (Ev.bind (f := fun _ t => some (t, digB 10000 (valB 10000 x % y))) ht (Ev.now _))
    simp only [r2DM.l0]
    rw [if_neg (by omega), List.drop_zero]
  | j + 1, out, hj, hq => by
    have hlim := limb_lt dx j
    have hr := Nat.mod_lt (valB 10000 (x.drop (j + 1))) y0
    obtain ⟨q1, q2, q3⟩ := quot_step (B := 10000) (X := valB 10000 (x.drop (j + 1))) y0 hlim
    have hnext := hq.next (by decide) y0 dx (show j < x.length by omega) rfl
    have ih := div_loop dx h9 hy y0 j _ (by omega) hnext
    rw [Quot.rest (by decide) y0 dx (show j < x.length by omega)] at ih
    generalize valB 10000 (x.drop (j + 1)) % y = r at hr q1 q2 q3 ih ⊢
    have hyb := valB_lt 10000 _ (T_good y).dig
    rw [T_val] at hyb
    have hR : r * 10000 + limbN x j < 10000 * y := by omega
    have hRl : (digB 10000 (r * 10000 + limbN x j)).length ≤ (digB 10000 y).length + 1 := by
      refine digB_len (by decide) ?_
      rw [Nat.pow_succ]
      exact Nat.lt_of_lt_of_le hR (by rw [Nat.mul_comm]; exact Nat.mul_le_mul_right _ (by omega))
    have hrl := T_len_le (Nat.le_of_lt hr)
    have dcat : DigB 10000 ([((limbN x j : Nat) : Int)] ++ digB 10000 r) := DigB.cons (by omega) (by omega) (T_good r).dig
    have ecat : valB 10000 ([((limbN x j : Nat) : Int)] ++ digB 10000 r) = r * 10000 + limbN x j := by
      rw [List.singleton_append, valB_cons, T_val, Int.toNat_natCast]; omega
    have t1 := trim2_ev dcat (by simp; omega)
    rw [ecat] at t1
    have t2 := digit2_ev (by omega) hR
    generalize hRr : r * 10000 + limbN x j = R at t1 t2 ih hR hRl q1 q2 q3
    have hRy : R / y < 10000 := q3
    have t3 := times_ev (x := y) (d := R / y) (by omega) (by omega)
    have hmul : y * (R / y) ≤ R := Nat.mul_div_le R y
    have t4 := sub_ev (x := R) (y := y * (R / y)) (by omega) hmul
    rw [show R - y * (R / y) = R % y by have := Nat.mod_add_div R y; omega] at t4
    have p1 : ∀ k, r2DM.l0 (k + 1) x (digB 10000 y) out (digB 10000 r) (((j + 1 : Nat) : Int) - 1) = (r2t.f k ([((limbN x j : Nat) : Int)] ++ digB 10000 r)).bind fun t199 => (r2d.f k t199 (digB 10000 y)).bind fun t202 => (r1Times.f k (digB 10000 y) t202).bind fun t204 => (r1Sub.f k t199 t204).bind fun bt207 => r2DM.l0 k x (digB 10000 y) (out.set j t202) bt207.1 ((j : Int) - 1) := by
      intro k
      have c0 : (0 : Int) ≤ (j : Int) := by omega
      have c1 : (j : Int) < (x.length : Int) := by omega
      have c2 : (j : Int) < (out.length : Int) := by rw [hq.len]; omega
      have c3 : wrap64 ((j : Int) - 1) = (j : Int) - 1 := w64 (by omega) (by omega)
      have c4 : ((j + 1 : Nat) : Int) - 1 = (j : Int) := by omega
      have c5 : ([((limbN x j : Nat) : Int)] : List Int).length + (digB 10000 r).length < 17592186044416 := by simp; omega
      simp only [r2DM.l0, c4, ge_iff_le, if_pos c0, if_pos c1, rd_limb dx, Option.bind_some, if_pos c5, if_pos c2, c3, Int.toNat_natCast]
    refine Ev.step p1 (Ev.bind t1 (Ev.bind t2 (Ev.bind t3 (Ev.bind t4 ?_))))
    exact ih
theorem divmod_ev {x y : Nat} (hx : (digB 10000 x).length ≤ 800000) (hy : (digB 10000 y).length ≤ 800000) (y0 : 0 < y) : Ev (fun k => r2DM.f k (digB 10000 x) (digB 10000 y)) (digB 10000 (x / y), digB 10000 (x % y)) := by
  have h := div_loop (T_good x).dig hx hy y0 (digB 10000 x).length _ (by omega) (Quot.start (by decide) _)
  rw [T_val, List.drop_length, show valB 10000 [] % y = 0 by rw [valB_nil]; exact Nat.zero_mod y, digB_zero _ (by decide)] at h
  refine Ev.congr (fun k => ?_) h
  unfold r2DM.f
  rw [if_pos (by omega), if_pos (by omega), Int.toNat_natCast, w64 (by omega) (by omega)]
theorem gcd_loop : ∀ (m x y : Nat), y < m → (digB 10000 x).length ≤ 800000 → (digB 10000 y).length ≤ 800000 → Ev (fun k => fluxionref02_Gcd.l0 k (digB 10000 x) (digB 10000 y)) (digB 10000 (Nat.gcd x y)) := by
  intro m
  induction m with
  | zero => intro x y h; omega
  | succ m ih =>
    intro x y h hx hy
    by_cases h0 : y = 0
    · subst h0
      rw [digB_zero _ (by decide), Nat.gcd_zero_right]
      refine Ev.step (f := fun _ => some (digB 10000 x)) (fun k => ?_) (Ev.now _)
      simp only [fluxionref02_Gcd.l0]; rw [if_neg (by simp)]
    · have hlt := Nat.mod_lt x (show 0 < y by omega)
      have hne : 0 < (digB 10000 y).length := Nat.pos_of_ne_zero (fun e => h0 ((digB_nil y).1 (List.eq_nil_of_length_eq_zero e)))
      have hi := ih y (x % y) (by omega) hy (Nat.le_trans (T_len_le (Nat.le_of_lt hlt)) hy)
      rw [← gcd_rests x y (by omega)] at hi
      refine Ev.step (fun k => ?_) (Ev.bind (f := fun k bt => fluxionref02_Gcd.l0 k (digB 10000 y) bt.2) (divmod_ev hx hy (by omega)) hi)
      simp only [fluxionref02_Gcd.l0]; rw [if_pos (by omega)]
theorem gcd_ev {x y : Nat} (hx : (digB 10000 x).length ≤ 800000) (hy : (digB 10000 y).length ≤ 800000) : Ev (fun k => fluxionref02_Gcd.f k (digB 10000 x) (digB 10000 y)) (digB 10000 (Nat.gcd x y)) :=
  gcd_loop (y + 1) x y (by omega) hx hy
def ratN (n : Bool) (x y : Nat) : Bool × Nat × Nat := if x = 0 ∨ y = 0 then (false, 0, 1) else (n, x / Nat.gcd x y, y / Nat.gcd x y)
def ratL (B : Nat) (r : Bool × Nat × Nat) : Bool × List Int × List Int := (r.1, digB B r.2.1, digB B r.2.2)
theorem make_ev {n : Bool} {x y : Nat} (hx : (digB 10000 x).length ≤ 800000) (hy : (digB 10000 y).length ≤ 800000) : Ev (fun k => r3M.f k n (digB 10000 x) (digB 10000 y)) (ratL 10000 (ratN n x y)) := by
  have zero : x = 0 ∨ y = 0 → Ev (fun k => r3M.j0 k n (digB 10000 x) (digB 10000 y) true) (ratL 10000 (ratN n x y)) := by
    intro h
    refine Ev.step (f := fun _ => some (false, ([] : List Int), ([1] : List Int))) (fun k => ?_) ?_
    · simp only [r3M.j0]; rfl
    · unfold ratN ratL
      rw [if_pos h]
      show Ev _ (false, digB 10000 0, digB 10000 1)
      rw [digB_zero _ (by decide), digB_small (by decide) (by decide) (by decide)]; exact Ev.now _
  have len0 : ∀ v : Nat, ((digB 10000 v).length : Int) = 0 ↔ v = 0 := fun v => by
    rw [← digB_nil v]
    constructor
    · intro h; exact List.eq_nil_of_length_eq_zero (by omega)
    · intro h; rw [h]; rfl
  by_cases hx0 : x = 0
  · refine Ev.congr (fun k => ?_) (zero (Or.inl hx0))
    unfold r3M.f; rw [if_pos ((len0 x).2 hx0)]
  · by_cases hy0 : y = 0
    · refine Ev.congr (fun k => ?_) (zero (Or.inr hy0))
      unfold r3M.f; rw [if_neg (fun h => hx0 ((len0 x).1 h)), show (((digB 10000 y).length : Int) == 0) = true from beq_iff_eq.2 ((len0 y).2 hy0)]
    · have hg : 0 < Nat.gcd x y := Nat.gcd_pos_of_pos_left _ (by omega)
      have hgl : (digB 10000 (Nat.gcd x y)).length ≤ 800000 := Nat.le_trans (T_len_le (Nat.gcd_le_left _ (by omega))) hx
      have e : ratN n x y = (n, x / Nat.gcd x y, y / Nat.gcd x y) := by unfold ratN; rw [if_neg (by omega)]
      rw [e]
      have d1 := divmod_ev hx hgl hg
      have d2 := divmod_ev hy hgl hg
      refine Ev.congr (f := fun k => r3M.j0 k n (digB 10000 x) (digB 10000 y) false) (fun k => ?_) (Ev.step (f := fun k => (fluxionref02_Gcd.f k (digB 10000 x) (digB 10000 y)).bind fun t221 => (r2DM.f k (digB 10000 x) t221).bind fun bt224 => (r2DM.f k (digB 10000 y) t221).bind fun bt230 => some (n, bt224.1, bt230.1)) (fun k => ?_) (Ev.bind (gcd_ev hx hy) (Ev.bind d1 (Ev.bind d2 (Ev.now _)))))
      · unfold r3M.f; rw [if_neg (fun h => hx0 ((len0 x).1 h)), show (((digB 10000 y).length : Int) == 0) = false by rw [beq_eq_false_iff_ne]; exact fun h => hy0 ((len0 y).1 h)]
      · simp only [r3M.j0]; rw [if_neg (by decide)]
theorem ofR_ev {n : Bool} {a b : List Int} (da : DigB 4294967296 a) (db : DigB 4294967296 b) (la : a.length ≤ 100000) (lb : b.length ≤ 100000) : Ev (fun k => r3Of.f k n a b) (ratL 10000 (ratN n (valB 4294967296 a) (valB 4294967296 b))) := by
  have l1 := T_len (valB_lt 4294967296 a da)
  have l2 := T_len (valB_lt 4294967296 b db)
  have h := Ev.bind (of_ev da la) (f := fun k t238 => (r1Of.f k b).bind fun t241 => (r3M.f k n t238 t241).bind fun bt244 => some (bt244.1, bt244.2.1, bt244.2.2)) (Ev.bind (of_ev db lb) (Ev.bind (make_ev (n := n) (by omega) (by omega)) (Ev.now _)))
  exact h
end Go.Proofs.YthppjdmkinbccaaGreatDoor.Ref

namespace Go.Proofs.YthppjdmkinbccaaGreatDoor.Base
open Go.RowKit Go.Proofs.YthppjdmkinbccaaGreatDoorW.PrintWords Go.Proofs.YthppjdmkinbccaaGreatDoorW.PrintLast Go.Proofs.YthppjdmkinbccaaGreatDoor.Print
set_option linter.unusedVariables false
set_option linter.unusedSimpArgs false
set_option maxRecDepth 100000 in
theorem known_ev : kn9.f 3 = some true := by decide +kernel
theorem known_evK : ∀ k, 3 ≤ k → kn9.f k = some true := by
  intro k hk
  induction k with
  | zero => omega
  | succ n ih =>
    rcases Nat.lt_or_ge n 3 with h | h
    · obtain rfl : n = 2 := by omega
      exact known_ev
    · exact kn9.mono n true (ih h)
end Go.Proofs.YthppjdmkinbccaaGreatDoor.Base

namespace Go.Proofs.YthppjdmkinbccaaGreatDoor.Ref
open Go.RowKit Go.Proofs.YthppjdmkinbccaaGreatDoorW.PrintWords Go.Proofs.YthppjdmkinbccaaGreatDoorW.PrintLast Go.Proofs.YthppjdmkinbccaaGreatDoor.Print Go.Proofs.YthppjdmkinbccaaGreatDoor.Base
set_option linter.unusedVariables false
set_option linter.unusedSimpArgs false
theorem known_Ev : Ev (fun k => kn9.f k) true := ⟨3, known_evK⟩
theorem wf_ok {l : List Int} (hl : l.length ≤ 1048576) (h : ∀ x ∈ l, (Lit.int .u32 x).wf = true) : okN l = true :=
  okN_iff.2 ⟨hl, fun d hd => by
    have := h d hd
    simp [Lit.wf, IntKind.min, IntKind.max, IntKind.signed, IntKind.bits] at this
    omega⟩
theorem nat_f {l : List Int} (h : okN l = true) : digits_Nat.f l = some (decB (valB 4294967296 l)) := by unfold digits_Nat.f; rw [if_pos h]
theorem cmp_f {a b : List Int} (h : okN a = true) (k : okN b = true) : nat_Cmp.f a b = some (cmpN (valB 4294967296 a) (valB 4294967296 b)) := by unfold nat_Cmp.f; rw [if_pos ⟨h, k⟩]
theorem decB_list (u : Nat) : (decB u).toList = Lib.decDigits u := by rw [ByteArray.toList_eq]; rfl
theorem decB_data (u : Nat) : (decB u).data.toList = Lib.decDigits u := rfl
theorem le_pow10 {k a b : Nat} (h : a * b ≤ k) : (10 ^ a) ^ b ≤ 10 ^ k := by
  rw [← Nat.pow_mul]; exact Nat.pow_le_pow_right (by decide) h
def progNat (l : List UInt8) : List Int × Int := if natB l = true then (if 309 < l.length then ([], 14) else if numD l < 4294967296 ^ 32 then (digB 4294967296 (numD l), 0) else ([], 14)) else ([], 19)
theorem prog_f (s : ByteArray) : digits_ParseNat.f s = some (progNat s.data.toList) := by
  unfold digits_ParseNat.f digits_natural.f progNat
  rw [Option.bind_some]
  by_cases h : natB s.data.toList = true
  · rw [if_pos h, if_pos h]
    unfold digits_read.f
    rw [if_pos h, size_toList2]
    split
    · rfl
    · split <;> rfl
  · rw [if_neg h, if_neg h]
theorem num_big {l : List UInt8} (h : NatL l) (hl : 309 < l.length) : 4294967296 ^ 32 ≤ numD l := by
  obtain ⟨h1, h2, h3⟩ := h
  cases l with
  | nil => simp at hl
  | cons c r =>
    have hc : c ≠ 48 := fun e => by
      have := h3 (by rw [e]; rfl)
      omega
    have hd := h2 c (List.mem_cons_self ..)
    have hne : c.toNat ≠ 48 := fun e => hc (UInt8.toNat_inj.1 (by have h48 : (48 : UInt8).toNat = 48 := rfl; omega))
    have e1 : numD (c :: r) = numF (10 * 0 + (c.toNat - 48)) r := rfl
    rw [e1, numF_eq]
    have hr : 309 ≤ r.length := by simp at hl; omega
    have a1 : 4294967296 ^ 32 ≤ (10 ^ 103) ^ 3 := Nat.le_of_ble_eq_true rfl
    have a2 : (10 ^ 103) ^ 3 ≤ 10 ^ r.length := le_pow10 hr
    have a3 : 1 * 10 ^ r.length ≤ (10 * 0 + (c.toNat - 48)) * 10 ^ r.length := Nat.mul_le_mul_right _ (by omega)
    exact Nat.le_trans a1 (Nat.le_trans a2 (Nat.le_trans (by rw [Nat.one_mul] at a3; exact a3) (Nat.le_add_right _ _)))
theorem read_same (l : List UInt8) : (progNat l = ([], 19) ∧ refNat l = ([], 19)) ∨ (progNat l = ([], 14) ∧ refNat l = ([], 14)) ∨ (natB l = true ∧ l.length ≤ 309 ∧ numD l < 4294967296 ^ 32 ∧ progNat l = (digB 4294967296 (numD l), 0) ∧ refNat l = (digB 10000 (numD l), 0)) := by
  unfold progNat refNat
  by_cases h : natB l = true
  · rw [if_pos h, if_pos h]
    by_cases h4 : 400 < l.length
    · rw [if_pos h4, if_pos (by omega)]; exact Or.inr (Or.inl ⟨rfl, rfl⟩)
    · rw [if_neg h4]
      by_cases h3 : 309 < l.length
      · have := num_big (natB_iff.1 h) h3
        rw [if_pos h3, if_neg (Nat.not_lt.2 this)]; exact Or.inr (Or.inl ⟨rfl, rfl⟩)
      · rw [if_neg h3]
        by_cases h2 : numD l < 4294967296 ^ 32
        · rw [if_pos h2, if_pos h2]; exact Or.inr (Or.inr ⟨h, by omega, h2, rfl, rfl⟩)
        · rw [if_neg h2, if_neg h2]; exact Or.inr (Or.inl ⟨rfl, rfl⟩)
  · rw [if_neg h, if_neg h]; exact Or.inl ⟨rfl, rfl⟩
theorem bA_self (s : ByteArray) : bA s.data.toList = s := by cases s; simp [bA]
theorem bA_list (l : List UInt8) : (bA l).data.toList = l := by simp [bA]
theorem bA_toList (l : List UInt8) : (bA l).toList = l := by rw [ByteArray.toList_eq]; exact bA_list l
theorem bA_dec (v : Nat) : decB v = bA (Lib.decDigits v) := rfl
theorem dec_len {x n : Nat} (h : x < 4294967296 ^ n) : (Lib.decDigits x).length ≤ 10 * n + 1 := by
  refine (padD_dec (10 * n) x (Nat.lt_of_lt_of_le h ?_)).1
  rw [Nat.pow_succ, Nat.pow_mul]
  exact Nat.le_trans (Nat.pow_le_pow_left (by decide) n) (Nat.le_mul_of_pos_right _ (by decide))
theorem okD {v m : Nat} (h : v < 4294967296 ^ m) (hm : m ≤ 1000000) : okN (digB 4294967296 v) = true := okN_digB h (by omega)
theorem valD (v : Nat) : valB 4294967296 (digB 4294967296 v) = v := digB_val _ (by decide) v
end Go.Proofs.YthppjdmkinbccaaGreatDoor.Ref

namespace Go.Proofs.YthppjdmkinbccaaGreatDoor.Print
open Go.RowKit Go.Proofs.YthppjdmkinbccaaGreatDoorW.PrintWords Go.Proofs.YthppjdmkinbccaaGreatDoorW.PrintLast Go.Proofs.YthppjdmkinbccaaGreatDoorW.PrintMore
attribute [local go_sem] max2_int min2_int max_two min_two max_three min_three max_four min_four   -- for this text's walks alone
set_option linter.unusedVariables false
set_option linter.unusedSimpArgs false
def fluxionref04_cut.l0 : Nat → ByteArray → Int → Option (ByteArray × ByteArray × Bool)
 | 0, _, _ => none
 | k + 1, x0, x5 => if x5 < (x0.size : Int) then (if 0 ≤ x5 then (if (bt x0 x5) = 47 then (if x5 ≤ (x0.size : Int) then (if 0 ≤ (wrap64 (x5 + 1)) then (if (wrap64 (x5 + 1)) ≤ (x0.size : Int) then (some (x0.extract 0 (x5 : Int).toNat, x0.extract ((wrap64 (x5 + 1)) : Int).toNat x0.size, true)) else (none)) else (none)) else (none)) else (fluxionref04_cut.l0 k x0 (wrap64 (x5 + 1)))) else (none)) else (some (x0, (⟨#[]⟩ : ByteArray), false))
def fluxionref04_cut.f (k : Nat) (a0 : ByteArray) : Option (ByteArray × ByteArray × Bool) := fluxionref04_cut.l0 k a0 0
end Go.Proofs.YthppjdmkinbccaaGreatDoor.Print

namespace Go.Proofs.YthppjdmkinbccaaGreatDoor.Print
open Go.RowKit Go.Proofs.YthppjdmkinbccaaGreatDoorW.PrintWords Go.Proofs.YthppjdmkinbccaaGreatDoorW.PrintLast Go.Proofs.YthppjdmkinbccaaGreatDoorW.PrintMore
attribute [local go_sem] max2_int min2_int max_two min_two max_three min_three max_four min_four   -- for this text's walks alone
set_option linter.unusedVariables false
set_option linter.unusedSimpArgs false
mutual
def r4PR.j0 : Nat → ByteArray → Bool → Option (Bool × List Int × List Int × Int)
 | 0, _, _ => none
 | k + 1, x0, x4 => if x4 = true then (if 1 ≤ (x0.size : Int) then (r4PR.j1 k x0 x4 (x0.extract 1 x0.size)) else (none)) else (r4PR.j1 k x0 x4 x0)
def r4PR.j1 : Nat → ByteArray → Bool → ByteArray → Option (Bool × List Int × List Int × Int)
 | 0, _, _, _ => none
 | k + 1, x0, x4, x5 => (fluxionref04_cut.f k x5).bind fun bt275 => (if bt275.2.2 = true then (r4PR.j2 k x0 x4 bt275.1 bt275.2.1) else (r4PR.j2 k x0 x4 bt275.1 (⟨#[49]⟩ : ByteArray)))
def r4PR.j2 : Nat → ByteArray → Bool → ByteArray → ByteArray → Option (Bool × List Int × List Int × Int)
 | 0, _, _, _, _ => none
 | k + 1, x0, x4, x6, x7 => (r4nat.f k x6).bind fun t278 => (if t278 = true then ((r4nat.f k x7).bind fun t279 => (r4PR.j3 k x0 x4 x6 x7 (!t279))) else (r4PR.j3 k x0 x4 x6 x7 true))
def r4PR.j3 : Nat → ByteArray → Bool → ByteArray → ByteArray → Bool → Option (Bool × List Int × List Int × Int)
 | 0, _, _, _, _, _ => none
 | k + 1, x0, x4, x6, x7, x41 => if x41 = true then (some (false, ([] : List Int), ([] : List Int), 19)) else ((r4PN.f k x6).bind fun bt280 => ((r4PN.f k x7).bind fun bt284 => (if bt280.2 = 0 then (r4PR.j4 k x0 x4 bt280.1 bt284.1 (bt284.2 != 0)) else (r4PR.j4 k x0 x4 bt280.1 bt284.1 true))))
def r4PR.j4 : Nat → ByteArray → Bool → List Int → List Int → Bool → Option (Bool × List Int × List Int × Int)
 | 0, _, _, _, _, _ => none
 | k + 1, x0, x4, x9, x11, x58 => if x58 = true then (some (false, ([] : List Int), ([] : List Int), 14)) else ((r3M.f k x4 x9 x11).bind fun bt288 => ((r4R.f k bt288.1 bt288.2.1 bt288.2.2).bind fun t296 => (if t296.toList = x0.toList then (some (bt288.1, bt288.2.1, bt288.2.2, 0)) else (some (false, ([] : List Int), ([] : List Int), 6)))))
end
end Go.Proofs.YthppjdmkinbccaaGreatDoor.Print

namespace Go.Proofs.YthppjdmkinbccaaGreatDoor.Ref
open Go.RowKit Go.Proofs.YthppjdmkinbccaaGreatDoorW.PrintWords Go.Proofs.YthppjdmkinbccaaGreatDoorW.PrintLast Go.Proofs.YthppjdmkinbccaaGreatDoor.Print Go.Proofs.YthppjdmkinbccaaGreatDoor.Base
set_option linter.unusedVariables false
set_option linter.unusedSimpArgs false
def sgn (n : Bool) : List UInt8 := if n = true then [45] else []
def tailR (q : Nat) : List UInt8 := if q = 1 then [] else 47 :: Lib.decDigits q
def txt (r : Bool × Nat × Nat) : List UInt8 := sgn r.1 ++ (Lib.decDigits r.2.1 ++ tailR r.2.2)
theorem dec_one (q : Nat) : Lib.decDigits q = [49] ↔ q = 1 :=
  ⟨fun h => dec_inj (h.trans (show [49] = Lib.decDigits 1 by rw [dec_small (by decide)]; rfl)), fun h => by rw [h, dec_small (by decide)]; rfl⟩
theorem ratN_lt {n : Bool} {x y m : Nat} (hx : x < 4294967296 ^ m) (hy : y < 4294967296 ^ m) (hm : 1 ≤ m) : (ratN n x y).2.1 < 4294967296 ^ m ∧ (ratN n x y).2.2 < 4294967296 ^ m := by
  have h1 : (1 : Nat) < 4294967296 ^ m := Nat.lt_of_lt_of_le (show 1 < 4294967296 ^ 1 by decide) (Nat.pow_le_pow_right (by decide) hm)
  unfold ratN
  split
  · exact ⟨Nat.lt_trans Nat.zero_lt_one h1, h1⟩
  · exact ⟨Nat.lt_of_le_of_lt (Nat.div_le_self _ _) hx, Nat.lt_of_le_of_lt (Nat.div_le_self _ _) hy⟩
theorem ratN_idem (n : Bool) (x y : Nat) : ratN (ratN n x y).1 (ratN n x y).2.1 (ratN n x y).2.2 = ratN n x y := by
  unfold ratN
  by_cases h : x = 0 ∨ y = 0
  · rw [if_pos h]; rfl
  · rw [if_neg h]
    have hg : 0 < Nat.gcd x y := Nat.gcd_pos_of_pos_left _ (by omega)
    have h1 : 0 < x / Nat.gcd x y := Nat.div_pos (Nat.gcd_le_left _ (by omega)) hg
    have h2 : 0 < y / Nat.gcd x y := Nat.div_pos (Nat.gcd_le_right _ (by omega)) hg
    have h3 : Nat.gcd (x / Nat.gcd x y) (y / Nat.gcd x y) = 1 := Nat.gcd_div_gcd_div_gcd_of_pos_left (by omega)
    simp only []
    rw [if_neg (by omega), h3, Nat.div_one, Nat.div_one]
theorem of1_f : nat_Of.f 1 = some (digB 4294967296 1) := by decide +kernel
theorem norm_f {n : Bool} {a b : List Int} (ha : okN a = true) (hb : okN b = true) (la : a.length ≤ 1048000) (lb : b.length ≤ 1048000) : rat_Norm.f n a b = some (ratL 4294967296 (ratN n (valB 4294967296 a) (valB 4294967296 b))) := by
  have h1 : digB 4294967296 1 = [1] := digB_small (by decide) (by decide) (by decide)
  have h0 : digB 4294967296 0 = [] := digB_zero _ (by decide)
  unfold rat_Norm.f rat_Make.f ratN ratL
  rw [if_pos ⟨ha, hb, la, lb⟩]
  by_cases y0 : valB 4294967296 b = 0
  · rw [if_pos y0, if_pos (Or.inr y0), Option.bind_some, if_neg (by decide)]
    unfold rat_one.f
    rw [of1_f, h0, h1]; rfl
  · rw [if_neg y0]
    by_cases x0 : valB 4294967296 a = 0
    · rw [if_pos x0, if_pos (Or.inl x0), h0, h1]; rfl
    · rw [if_neg x0, if_neg (by omega)]; rfl
theorem ratP_ev {n : Bool} {a b : List Int} {m : Nat} (ha : okN a = true) (hb : okN b = true) (la : a.length ≤ m) (lb : b.length ≤ m) (hm : 1 ≤ m) (hm2 : m ≤ 1000000) : Ev (fun k => digits_Rat.f k n a b) (bA (txt (ratN n (valB 4294967296 a) (valB 4294967296 b)))) := by
  have hx := Nat.lt_of_lt_of_le (valB_lt 4294967296 a (okN_iff.1 ha).2) (Nat.pow_le_pow_right (by decide) la)
  have hy := Nat.lt_of_lt_of_le (valB_lt 4294967296 b (okN_iff.1 hb).2) (Nat.pow_le_pow_right (by decide) lb)
  obtain ⟨hp, hq⟩ := ratN_lt (n := n) hx hy hm
  have hn := norm_f (n := n) ha hb (by omega) (by omega)
  generalize ratN n (valB 4294967296 a) (valB 4294967296 b) = r at hp hq hn ⊢
  obtain ⟨s, p, q⟩ := r
  have l1 := dec_len hp
  have l2 := dec_len hq
  have fp := nat_f (okD hp (by omega))
  have fq := nat_f (okD hq (by omega))
  rw [valD] at fp fq
  have cq := cmp_f (okD hq (by omega)) (okD (v := 1) (m := 1) (by decide) (by decide))
  rw [valD, valD] at cq
  simp only [] at l1 l2 fp fq cq
  have tl : ∀ t : List UInt8, t.length ≤ 20000000 → Ev (fun k => digits_Rat.j0 k (bA t) s (digB 4294967296 p) (digB 4294967296 q)) (bA (t ++ tailR q)) := by
    intro t ht
    refine Ev.step (f := fun _ => some (bA (t ++ tailR q))) (fun k => ?_) (Ev.now _)
    simp only [digits_Rat.j0]
    rw [of1_f, Option.bind_some, cq, Option.bind_some]
    unfold cmpN tailR
    by_cases h1 : q = 1
    · subst h1
      rw [if_pos (by simp), if_pos rfl, List.append_nil]
    · rw [if_neg (by split; · omega
                     · rw [if_pos (by omega)]; omega), fq, Option.bind_some, if_neg h1, bA_dec]
      rw [show (⟨#[47]⟩ : ByteArray) = bA [47] from rfl, bA_append, bA_append, bA_size, bA_size, bA_size]
      rw [if_pos (by omega), if_pos (by simp; omega)]; rfl
  have e0 : ∀ k, digits_Rat.f k n a b = (if s = true then digits_Rat.j0 k (bA (sgn true ++ Lib.decDigits p)) s (digB 4294967296 p) (digB 4294967296 q) else digits_Rat.j0 k (bA (Lib.decDigits p)) s (digB 4294967296 p) (digB 4294967296 q)) := by
    intro k
    unfold digits_Rat.f
    rw [hn, Option.bind_some]
    show (digits_Nat.f (digB 4294967296 p)).bind _ = _
    rw [fp, Option.bind_some, bA_dec]
    show (if s = true then _ else _) = _
    by_cases hs : s = true
    · rw [if_pos hs, if_pos hs, bA_size, if_pos (by omega), show (⟨#[45]⟩ : ByteArray) = bA [45] from rfl, bA_append]; rfl
    · rw [if_neg hs, if_neg hs]; rfl
  refine Ev.congr e0 ?_
  cases s with
  | true =>
    have := tl (sgn true ++ Lib.decDigits p) (by simp [sgn]; omega)
    rw [List.append_assoc] at this
    exact this
  | false => exact tl (Lib.decDigits p) (by omega)
def splitS : List UInt8 → List UInt8 × List UInt8 × Bool
  | [] => ([], [], false)
  | c :: r => if c = 47 then ([], r, true) else (c :: (splitS r).1, (splitS r).2.1, (splitS r).2.2)
theorem splitS_join : ∀ l : List UInt8, l = (splitS l).1 ++ (if (splitS l).2.2 = true then 47 :: (splitS l).2.1 else [])
  | [] => rfl
  | c :: r => by
    have ih := splitS_join r
    unfold splitS
    by_cases h : c = 47
    · rw [if_pos h, h]; rfl
    · rw [if_neg h]
      show c :: r = c :: ((splitS r).1 ++ _)
      rw [← ih]
theorem splitS_two : ∀ (a b : List UInt8), (∀ c ∈ a, c ≠ 47) → splitS (a ++ 47 :: b) = (a, b, true)
  | [], b, _ => by unfold splitS; rw [List.nil_append]; simp
  | c :: r, b, h => by
    have ih := splitS_two r b (fun x hx => h x (List.mem_cons_of_mem _ hx))
    rw [List.cons_append]
    unfold splitS
    rw [if_neg (h c (List.mem_cons_self ..)), ih]
theorem splitS_one : ∀ (a : List UInt8), (∀ c ∈ a, c ≠ 47) → splitS a = (a, [], false)
  | [], _ => rfl
  | c :: r, h => by
    have ih := splitS_one r (fun x hx => h x (List.mem_cons_of_mem _ hx))
    unfold splitS
    rw [if_neg (h c (List.mem_cons_self ..)), ih]
def negS (l : List UInt8) : Bool := l.head? == some 45
def restS (l : List UInt8) : List UInt8 := if negS l = true then l.drop 1 else l
theorem strip_join (l : List UInt8) : l = sgn (negS l) ++ restS l := by
  unfold restS sgn
  by_cases h : negS l = true
  · rw [if_pos h, if_pos h]
    unfold negS at h
    cases l with
    | nil => simp at h
    | cons c r =>
      have : c = 45 := by simpa using h
      rw [this]; rfl
  · rw [if_neg h, if_neg h]; rfl
theorem strip_of (n : Bool) (t : List UInt8) (h : t.head? ≠ some 45) : negS (sgn n ++ t) = n ∧ restS (sgn n ++ t) = t := by
  unfold restS negS sgn
  cases n with
  | true => exact ⟨rfl, rfl⟩
  | false =>
    have e : (t.head? == some 45) = false := by rw [beq_eq_false_iff_ne]; exact h
    rw [if_neg (by decide), List.nil_append, e]
    exact ⟨rfl, rfl⟩
theorem dec_not {v : Nat} : (∀ c ∈ Lib.decDigits v, c ≠ 47) ∧ (∀ t, (Lib.decDigits v ++ t).head? ≠ some 45) := by
  have hd := dec_dig v
  have h47 : (47 : UInt8).toNat = 47 := rfl
  have h45 : (45 : UInt8).toNat = 45 := rfl
  refine ⟨fun c hc e => ?_, fun t => ?_⟩
  · have := hd c hc
    rw [e] at this; omega
  · cases hv : Lib.decDigits v with
    | nil => exact absurd hv (dec_ne v)
    | cons c r =>
      intro e
      have e2 : c = 45 := by simpa using e
      have := hd c (by rw [hv]; exact List.mem_cons_self ..)
      rw [e2] at this; omega
theorem txt_parts (n : Bool) (p q : Nat) : negS (txt (n, p, q)) = n ∧ splitS (restS (txt (n, p, q))) = (Lib.decDigits p, if q = 1 then [] else Lib.decDigits q, decide (q ≠ 1)) := by
  obtain ⟨h1, h2⟩ := strip_of n (Lib.decDigits p ++ tailR q) (dec_not.2 _)
  refine ⟨h1, ?_⟩
  show splitS (restS (sgn n ++ (Lib.decDigits p ++ tailR q))) = _
  rw [h2]
  unfold tailR
  by_cases h : q = 1
  · rw [if_pos h, if_pos h, List.append_nil, splitS_one _ dec_not.1, decide_eq_false (by simpa using h)]
  · rw [if_neg h, if_neg h, splitS_two _ _ dec_not.1, decide_eq_true h]
def resR (l : List UInt8) : Int × (Bool × Nat × Nat) :=
  let a := (splitS (restS l)).1
  let b := if (splitS (restS l)).2.2 = true then (splitS (restS l)).2.1 else [49]
  if natB a = true ∧ natB b = true then
    (if (progNat a).2 = 0 ∧ (progNat b).2 = 0 then (if txt (ratN (negS l) (numD a) (numD b)) = l then (0, ratN (negS l) (numD a) (numD b)) else (6, (false, 0, 1))) else (14, (false, 0, 1)))
  else (19, (false, 0, 1))
theorem may_txt {l a b : List UInt8} {two : Bool} (hs : splitS (restS l) = (a, b, two)) (ha : natB a = true) (hb : natB (if two = true then b else [49]) = true) :
    txt (ratN (negS l) (numD a) (numD (if two = true then b else [49]))) = l ↔ (ratN (negS l) (numD a) (numD (if two = true then b else [49])) = (negS l, numD a, numD (if two = true then b else [49])) ∧ ¬ (two = true ∧ b = [49])) := by
  have n1 : numD [49] = 1 := rfl
  constructor
  · intro h
    generalize hr : ratN (negS l) (numD a) (numD (if two = true then b else [49])) = r at h ⊢
    obtain ⟨n, p, q⟩ := r
    obtain ⟨t1, t2⟩ := txt_parts n p q
    rw [h] at t1 t2
    rw [hs] at t2
    simp only [Prod.mk.injEq] at t2
    obtain ⟨c1, c2, c3⟩ := t2
    rw [t1, c1, num_dec]
    by_cases hq : q = 1
    · rw [decide_eq_false (by simpa using hq)] at c3
      rw [c3, if_neg (by decide), n1, hq]
      exact ⟨rfl, fun e => by cases e.1⟩
    · rw [decide_eq_true hq] at c3
      rw [if_neg hq] at c2
      rw [c3, if_pos rfl, c2, num_dec]
      exact ⟨rfl, fun e => hq ((dec_one q).1 e.2)⟩
  · rintro ⟨h1, h2⟩
    rw [h1]
    have e1 := splitS_join (restS l)
    rw [hs] at e1
    have e2 := strip_join l
    conv => rhs; rw [e2, e1]
    show sgn (negS l) ++ (Lib.decDigits (numD a) ++ tailR _) = _
    rw [dec_numL (natB_iff.1 ha)]
    congr 2
    unfold tailR
    cases two with
    | true =>
      rw [if_pos rfl] at hb ⊢
      rw [if_pos rfl]
      have hne : numD b ≠ 1 := fun e => h2 ⟨rfl, by rw [← dec_numL (natB_iff.1 hb), e, dec_small (by decide)]; rfl⟩
      rw [if_neg hne, dec_numL (natB_iff.1 hb)]
    | false =>
      show (if numD [49] = 1 then [] else 47 :: Lib.decDigits (numD [49])) = []
      rw [if_pos n1]
theorem prog_ok {l : List UInt8} (h : natB l = true) : (progNat l).2 = 0 ∧ l.length ≤ 309 ∧ numD l < 4294967296 ^ 32 ∧ progNat l = (digB 4294967296 (numD l), 0) ∧ refNat l = (digB 10000 (numD l), 0) ∨ (progNat l).2 = 14 ∧ (refNat l).2 = 14 ∧ progNat l = ([], 14) := by
  rcases read_same l with ⟨e1, e2⟩ | ⟨e1, e2⟩ | ⟨hn, hl, hlt, e1, e2⟩
  · exfalso
    unfold progNat at e1
    rw [if_pos h] at e1
    split at e1
    · exact absurd (show (14 : Int) = 19 from congrArg Prod.snd e1) (by decide)
    · split at e1
      · exact absurd (show (0 : Int) = 19 from congrArg Prod.snd e1) (by decide)
      · exact absurd (show (14 : Int) = 19 from congrArg Prod.snd e1) (by decide)
  · exact Or.inr ⟨by rw [e1], by rw [e2], e1⟩
  · exact Or.inl ⟨by rw [e1], hl, hlt, e1, e2⟩
theorem prog_one : natB [49] = true ∧ progNat [49] = (digB 4294967296 1, 0) ∧ refNat [49] = (digB 10000 1, 0) := by
  have hn : natB [49] = true := rfl
  refine ⟨hn, ?_⟩
  have e : numD [49] = 1 := rfl
  unfold progNat refNat
  rw [if_pos hn, if_pos hn, e]
  have h1 : (1 : Nat) < 4294967296 ^ 32 := Nat.lt_of_lt_of_le (show 1 < 4294967296 ^ 1 by decide) (Nat.pow_le_pow_right (by decide) (by decide))
  rw [if_pos h1, if_pos h1]
  exact ⟨rfl, rfl⟩
end Go.Proofs.YthppjdmkinbccaaGreatDoor.Ref

namespace Go.Proofs.YthppjdmkinbccaaGreatDoor.Ref
open Go.RowKit Go.Proofs.YthppjdmkinbccaaGreatDoorW.PrintWords Go.Proofs.YthppjdmkinbccaaGreatDoorW.PrintLast Go.Proofs.YthppjdmkinbccaaGreatDoor.Print Go.Proofs.YthppjdmkinbccaaGreatDoor.Base
set_option linter.unusedVariables false
set_option linter.unusedSimpArgs false
def outR (B : Nat) (r : Int × Bool × Nat × Nat) : Bool × List Int × List Int × Int := if r.1 = 0 then (r.2.1, digB B r.2.2.1, digB B r.2.2.2, 0) else (false, [], [], r.1)
theorem split_index : ∀ r : List UInt8, splitS r = if 0 ≤ Lib.indexByte r 47 then (r.take (Lib.indexByte r 47).toNat, r.drop ((Lib.indexByte r 47).toNat + 1), true) else (r, [], false)
  | [] => rfl
  | c :: r => by
    have ih := split_index r
    have hge := Lib.indexByte_ge r 47
    have hi : Lib.indexByte (c :: r) 47 = if (c == 47) = true then 0 else if (Lib.indexByte r 47 == -1) = true then -1 else Lib.indexByte r 47 + 1 := rfl
    by_cases h : c = 47
    · have hv : Lib.indexByte (c :: r) 47 = 0 := by rw [hi, if_pos (by simpa using h)]
      rw [hv, if_pos (by decide)]
      unfold splitS
      rw [if_pos h]; rfl
    · have hs : splitS (c :: r) = (c :: (splitS r).1, (splitS r).2.1, (splitS r).2.2) := by
        conv => lhs; unfold splitS
        rw [if_neg h]
      by_cases h1 : Lib.indexByte r 47 = -1
      · have hv : Lib.indexByte (c :: r) 47 = -1 := by rw [hi, if_neg (by simpa using h), if_pos (by simpa using h1)]
        rw [hv, if_neg (by decide), hs, ih, if_neg (by omega)]
      · have hv : Lib.indexByte (c :: r) 47 = Lib.indexByte r 47 + 1 := by rw [hi, if_neg (by simpa using h), if_neg (by simpa using h1)]
        rw [hv, if_pos (by omega), hs, ih, if_pos (by omega)]
        obtain ⟨i, hi⟩ : ∃ i : Nat, Lib.indexByte r 47 = (i : Int) := ⟨(Lib.indexByte r 47).toNat, by omega⟩
        rw [hi, show ((i : Int) + 1).toNat = i + 1 by omega, Int.toNat_natCast]; rfl
theorem extract_bA (l : List UInt8) (i j : Nat) : (bA l).extract i j = bA ((l.drop i).take (j - i)) := by
  refine Go.WideShapes.bytes_inj ?_
  rw [extract_list, bA_list, bA_list]
theorem cutSL_bA (r : List UInt8) : cutSL (bA r) = (bA (splitS r).1, bA (splitS r).2.1, (splitS r).2.2) := by
  have hlt := indexByte_lt r 47
  have e : slAt (bA r) = Lib.indexByte r 47 := by unfold slAt; rw [bA_list]
  unfold cutSL
  rw [e, split_index r]
  by_cases h : 0 ≤ Lib.indexByte r 47
  · rw [if_pos h, if_pos h, extract_bA, extract_bA, bA_size]
    rw [List.drop_zero, Nat.sub_zero, List.take_of_length_le (l := r.drop _) (by rw [List.length_drop]; exact Nat.le_refl _)]
  · rw [if_neg h, if_neg h]; rfl
theorem prefix_bA (l : List UInt8) : strings_CutPrefix.f (bA l) ⟨#[45]⟩ = some (bA (restS l), negS l) := by
  unfold strings_CutPrefix.f Lib.trimPrefix restS negS
  rw [bA_list, show (⟨#[45]⟩ : ByteArray).data.toList = [45] from rfl]
  cases l with
  | nil => rfl
  | cons c r =>
    by_cases h : c = 45
    · subst h; rfl
    · have e1 : Lib.hasPrefix (c :: r) [45] = false := by unfold Lib.hasPrefix; simp [List.isPrefixOf, Ne.symm h]
      have e2 : ((c :: r).head? == some 45) = false := by simp [h]
      rw [e1, e2]; rfl
theorem restS_len (l : List UInt8) : (restS l).length ≤ l.length := by
  unfold restS; split
  · simp
  · exact Nat.le_refl _
theorem limbs_f {p x : Nat} (hp : p < 4294967296 ^ 32) (hx : x < 4294967296 ^ 32) : rat_limbs.f (digB 4294967296 p) (digB 4294967296 x) = some (decide (p = x)) := by
  have c := cmp_f (okD hp (by decide)) (okD hx (by decide))
  rw [valD, valD] at c
  unfold rat_limbs.f
  by_cases h : p = x
  · subst h
    rw [if_pos rfl, c, decide_eq_true rfl]; unfold cmpN; simp
  · rw [decide_eq_false h]
    split
    · rw [c, Option.bind_some]
      unfold cmpN
      by_cases h1 : p < x
      · rw [if_pos h1]; rfl
      · rw [if_neg h1, if_pos (by omega)]; rfl
    · rfl
theorem may_f {n : Bool} {x y : Nat} (hx : x < 4294967296 ^ 32) (hy : y < 4294967296 ^ 32) : rat_May.f n (digB 4294967296 x) (digB 4294967296 y) = some (if ratN n x y = (n, x, y) then 0 else 6) := by
  have ox := okD hx (by decide)
  have oy := okD hy (by decide)
  have hn := norm_f (n := n) ox oy (Nat.le_trans (digB_len (by decide) hx) (by decide)) (Nat.le_trans (digB_len (by decide) hy) (by decide))
  rw [valD, valD] at hn
  obtain ⟨hp, hq⟩ := ratN_lt (n := n) hx hy (by decide)
  generalize ratN n x y = r at hn hp hq ⊢
  obtain ⟨m, p, q⟩ := r
  have l1 := limbs_f (p := p) (x := x) hp hx
  have l2 := limbs_f (p := q) (x := y) hq hy
  unfold rat_May.f
  rw [hn, Option.bind_some]
  simp only [ratL, l1, l2, Option.bind_some, Prod.mk.injEq]
  cases m <;> cases n <;> by_cases hpx : p = x <;> by_cases hqy : q = y <;> simp [hpx, hqy]
theorem read_f {l : List UInt8} (h : natB l = true) : digits_read.f (bA l) = some (progNat l) := by
  unfold digits_read.f progNat
  rw [bA_list, bA_size, if_pos h, if_pos h]
  split
  · rfl
  · split <;> rfl
theorem natural_f (l : List UInt8) : digits_natural.f (bA l) = some (natB l) := by unfold digits_natural.f; rw [bA_list]
theorem progR_ev (l : List UInt8) (hl : l.length ≤ 140737488351232) : Ev (fun k => digits_ParseRat.f k (bA l)) (outR 4294967296 (resR l)) := by
  have hc : strings_Cut.f (bA (restS l)) ⟨#[47]⟩ = some (bA (splitS (restS l)).1, bA (splitS (restS l)).2.1, (splitS (restS l)).2.2) := by
    unfold strings_Cut.f
    rw [if_pos ⟨rfl, by rw [bA_size]; exact Nat.le_trans (restS_len l) hl⟩, cutSL_bA]
  unfold resR
  generalize hs : splitS (restS l) = t at hc ⊢
  obtain ⟨a, b, two⟩ := t
  simp only [] at hc ⊢
  have e0 : ∀ k, digits_ParseRat.f k (bA l) = if natB a = true then (if two = true then digits_ParseRat.j0 k (negS l) (bA a) (bA b) two (!natB b) else digits_ParseRat.j0 k (negS l) (bA a) (bA b) two false) else digits_ParseRat.j0 k (negS l) (bA a) (bA b) two true := by
    intro k
    unfold digits_ParseRat.f
    simp only [prefix_bA, hc, natural_f, Option.bind_some]
  have bad : Ev (fun k => digits_ParseRat.j0 k (negS l) (bA a) (bA b) two true) (outR 4294967296 (19, (false, 0, 1))) := by
    refine Ev.step (f := fun _ => some (outR 4294967296 (19, (false, 0, 1)))) (fun k => ?_) (Ev.now _)
    simp only [digits_ParseRat.j0]; rfl
  refine Ev.congr e0 ?_
  by_cases ha : natB a = true
  · have main : ∀ hb : natB (if two = true then b else [49]) = true, Ev (fun k => digits_ParseRat.j0 k (negS l) (bA a) (bA b) two false) (outR 4294967296 (if (progNat a).2 = 0 ∧ (progNat (if two = true then b else [49])).2 = 0 then (if txt (ratN (negS l) (numD a) (numD (if two = true then b else [49]))) = l then (0, ratN (negS l) (numD a) (numD (if two = true then b else [49]))) else (6, (false, 0, 1))) else (14, (false, 0, 1)))) := by
      intro hb
      have hm := may_txt hs ha hb
      refine Ev.step (f := fun _ => some (outR 4294967296 (if (progNat a).2 = 0 ∧ (progNat (if two = true then b else [49])).2 = 0 then (if txt (ratN (negS l) (numD a) (numD (if two = true then b else [49]))) = l then (0, ratN (negS l) (numD a) (numD (if two = true then b else [49]))) else (6, (false, 0, 1))) else (14, (false, 0, 1))))) (fun k => ?_) (Ev.now _)
      simp only [digits_ParseRat.j0]
      rw [if_neg (by decide), of1_f, Option.bind_some, read_f ha, Option.bind_some]
      rcases prog_ok ha with ⟨a0, a1, a2, a3, _⟩ | ⟨a0, _, a3⟩
      · rw [if_pos a0]
        cases two with
        | true =>
          rw [if_pos rfl] at hb hm ⊢
          simp only [if_true, true_and] at hm ⊢
          rw [read_f hb, Option.bind_some]
          rcases prog_ok hb with ⟨b0, b1, b2, b3, _⟩ | ⟨b0, _, b3⟩
          · rw [if_pos b0, if_pos (And.intro a0 b0), a3, b3]
            simp only []
            rw [may_f a2 b2, Option.bind_some]
            by_cases hr : ratN (negS l) (numD a) (numD b) = (negS l, numD a, numD b)
            · rw [if_pos hr, if_pos rfl, bA_toList]
              by_cases h1 : b = [49]
              · rw [if_pos h1, if_neg (fun c => (hm.1 c).2 h1)]; rfl
              · rw [if_neg h1, if_pos (hm.2 ⟨hr, h1⟩), hr]; rfl
            · rw [if_neg hr, if_neg (by decide), if_neg (fun c => hr (hm.1 c).1)]; rfl
          · rw [if_neg (by rw [b0]; decide), if_neg (by rw [b0]; exact fun c => absurd c.2 (by decide)), b0]; rfl
        | false =>
          obtain ⟨o1, o2, o3⟩ := prog_one
          simp only [Bool.false_eq_true, if_false, false_and, not_false_eq_true, and_true] at hm ⊢
          rw [if_pos (And.intro a0 (show (progNat [49]).2 = 0 by rw [o2])), a3]
          have n1 : numD [49] = 1 := rfl
          rw [n1] at hm ⊢
          have h1 : (1 : Nat) < 4294967296 ^ 32 := Nat.lt_of_lt_of_le (show 1 < 4294967296 ^ 1 by decide) (Nat.pow_le_pow_right (by decide) (by decide))
          simp only []
          rw [may_f a2 h1, Option.bind_some]
          by_cases hr : ratN (negS l) (numD a) 1 = (negS l, numD a, 1)
          · rw [if_pos hr, if_pos rfl, if_pos (hm.2 hr), hr]; rfl
          · rw [if_neg hr, if_neg (by decide), if_neg (fun c => hr (hm.1 c))]; rfl
      · rw [if_neg (by rw [a0]; decide), if_neg (by rw [a0]; exact fun c => absurd c.1 (by decide)), a0]; rfl
    cases two with
    | true =>
      simp only [if_true] at main ⊢
      by_cases hb : natB b = true
      · have := main hb
        rw [if_pos (And.intro ha hb)]
        refine Ev.congr (fun k => ?_) this
        rw [if_pos ha, hb]; rfl
      · rw [if_neg (fun c => hb c.2)]
        refine Ev.congr (fun k => ?_) bad
        rw [if_pos ha, show natB b = false by simpa using hb]; rfl
    | false =>
      simp only [Bool.false_eq_true, if_false] at main ⊢
      have := main prog_one.1
      rw [if_pos (And.intro ha prog_one.1)]
      refine Ev.congr (fun k => ?_) this
      rw [if_pos ha]
  · rw [if_neg (fun c => ha c.1)]
    refine Ev.congr (fun k => ?_) bad
    rw [if_neg ha]
end Go.Proofs.YthppjdmkinbccaaGreatDoor.Ref

namespace Go.Proofs.YthppjdmkinbccaaGreatDoor.Ref
open Go.RowKit Go.Proofs.YthppjdmkinbccaaGreatDoorW.PrintWords Go.Proofs.YthppjdmkinbccaaGreatDoorW.PrintLast Go.Proofs.YthppjdmkinbccaaGreatDoor.Print Go.Proofs.YthppjdmkinbccaaGreatDoor.Base
set_option linter.unusedVariables false
set_option linter.unusedSimpArgs false
theorem is3_ev {n : Bool} {p q m : Nat} (hp : p < 4294967296 ^ m) (hq : q < 4294967296 ^ m) (hm : m ≤ 50000) : Ev (fun k => r3Is.f k n (digB 10000 p) (digB 10000 q) n (digB 4294967296 p) (digB 4294967296 q)) true := by
  have i1 := is_ev (x := p) hp hm
  have i2 := is_ev (x := q) hq hm
  rw [decide_eq_true rfl] at i1 i2
  refine Ev.congr (f := fun k => (r1Is.f k (digB 10000 p) (digB 4294967296 p)).bind fun t => if t = true then ((r1Is.f k (digB 10000 q) (digB 4294967296 q)).bind fun u => some u) else some false) (fun k => ?_) (Ev.bind i1 ?_)
  · unfold r3Is.f
    cases n <;> rfl
  · exact Ev.congr (fun k => by rw [if_pos rfl]) (Ev.bind i2 (f := fun _ u => some u) (Ev.now _))
theorem resR_ok {l : List UInt8} (h : (resR l).1 = 0) : (resR l).2.2.1 < 4294967296 ^ 32 ∧ (resR l).2.2.2 < 4294967296 ^ 32 ∧ txt (resR l).2 = l ∧ ratN (resR l).2.1 (resR l).2.2.1 (resR l).2.2.2 = (resR l).2 := by
  unfold resR at h ⊢
  generalize splitS (restS l) = t at h ⊢
  obtain ⟨a, b, two⟩ := t
  simp only [] at h ⊢
  generalize (if two = true then b else [49]) = c at h ⊢
  by_cases h1 : natB a = true ∧ natB c = true
  · rw [if_pos h1] at h ⊢
    by_cases h2 : (progNat a).2 = 0 ∧ (progNat c).2 = 0
    · rw [if_pos h2] at h ⊢
      by_cases h3 : txt (ratN (negS l) (numD a) (numD c)) = l
      · rw [if_pos h3]
        rcases prog_ok h1.1 with ⟨_, _, a2, _⟩ | ⟨a0, _⟩
        · rcases prog_ok h1.2 with ⟨_, _, b2, _⟩ | ⟨b0, _⟩
          · obtain ⟨q1, q2⟩ := ratN_lt (n := negS l) a2 b2 (by decide)
            exact ⟨q1, q2, h3, ratN_idem _ _ _⟩
          · exact absurd (h2.2.symm.trans b0) (by decide)
        · exact absurd (h2.1.symm.trans a0) (by decide)
      · rw [if_neg h3] at h; exact absurd (show (6 : Int) = 0 from h) (by decide)
    · rw [if_neg h2] at h; exact absurd (show (14 : Int) = 0 from h) (by decide)
  · rw [if_neg h1] at h; exact absurd (show (19 : Int) = 0 from h) (by decide)
theorem dec_309 {v : Nat} (h : v < 4294967296 ^ 32) : (Lib.decDigits v).length ≤ 309 := by
  obtain ⟨k, hk⟩ : ∃ k : Nat, k = 308 := ⟨_, rfl⟩
  have a1 : 4294967296 ^ 32 ≤ (10 ^ 103) ^ 3 := Nat.le_of_ble_eq_true rfl
  have a2 : (10 ^ 103) ^ 3 ≤ 10 ^ (k + 1) := le_pow10 (by omega)
  have := (padD_dec k v (Nat.lt_of_lt_of_le h (Nat.le_trans a1 a2))).1
  omega
theorem prog_dec (v : Nat) : natB (Lib.decDigits v) = true ∧ progNat (Lib.decDigits v) = if v < 4294967296 ^ 32 then (digB 4294967296 v, 0) else ([], 14) := by
  have hn : natB (Lib.decDigits v) = true := natB_iff.2 (dec_natL v)
  refine ⟨hn, ?_⟩
  unfold progNat
  rw [if_pos hn, num_dec]
  by_cases h : v < 4294967296 ^ 32
  · rw [if_neg (by have := dec_309 h; omega)]
  · rw [if_neg h]; split <;> rfl
theorem resR_gen (n : Bool) (p q : Nat) : resR (txt (n, p, q)) = if p < 4294967296 ^ 32 ∧ q < 4294967296 ^ 32 then (if txt (ratN n p q) = txt (n, p, q) then (0, ratN n p q) else (6, (false, 0, 1))) else (14, (false, 0, 1)) := by
  obtain ⟨t1, t2⟩ := txt_parts n p q
  have e : (if decide (q ≠ 1) = true then (if q = 1 then [] else Lib.decDigits q) else [49]) = Lib.decDigits q := by
    by_cases h : q = 1
    · rw [if_neg (by simpa using h), (dec_one q).2 h]
    · rw [if_pos (by simpa using h), if_neg h]
  obtain ⟨np, pp⟩ := prog_dec p
  obtain ⟨nq, pq⟩ := prog_dec q
  have c : ((progNat (Lib.decDigits p)).2 = 0 ∧ (progNat (Lib.decDigits q)).2 = 0) ↔ (p < 4294967296 ^ 32 ∧ q < 4294967296 ^ 32) := by
    rw [pp, pq]
    by_cases hp : p < 4294967296 ^ 32
    · by_cases hq : q < 4294967296 ^ 32
      · rw [if_pos hp, if_pos hq]; exact ⟨fun _ => ⟨hp, hq⟩, fun _ => ⟨rfl, rfl⟩⟩
      · rw [if_pos hp, if_neg hq]; exact ⟨fun x => absurd (show (14 : Int) = 0 from x.2) (by decide), fun x => absurd x.2 hq⟩
    · rw [if_neg hp]; exact ⟨fun x => absurd (show (14 : Int) = 0 from x.1) (by decide), fun x => absurd x.1 hp⟩
  unfold resR
  rw [t2]
  simp only []
  rw [e, if_pos (And.intro np nq), t1, num_dec, num_dec]
  by_cases h : p < 4294967296 ^ 32 ∧ q < 4294967296 ^ 32
  · rw [if_pos (c.2 h), if_pos h]
  · rw [if_neg (fun x => h (c.1 x)), if_neg h]
theorem resR_txt {n : Bool} {x y m : Nat} (hx : x < 4294967296 ^ m) (hy : y < 4294967296 ^ m) (h1 : 1 ≤ m) (hm : m ≤ 32) : resR (txt (ratN n x y)) = (0, ratN n x y) := by
  obtain ⟨hp, hq⟩ := ratN_lt (n := n) hx hy h1
  have hi := ratN_idem n x y
  generalize ratN n x y = r at hp hq hi ⊢
  obtain ⟨s, p, q⟩ := r
  simp only [] at hp hq hi
  have up : ∀ v : Nat, v < 4294967296 ^ m → v < 4294967296 ^ 32 := fun v hv => Nat.lt_of_lt_of_le hv (Nat.pow_le_pow_right (by decide) hm)
  rw [resR_gen, if_pos (And.intro (up p hp) (up q hq)), hi, if_pos rfl]
theorem txt_len {n : Bool} {p q m : Nat} (hp : p < 4294967296 ^ m) (hq : q < 4294967296 ^ m) : (txt (n, p, q)).length ≤ 20 * m + 4 := by
  have l1 := dec_len hp
  have l2 := dec_len hq
  unfold txt sgn tailR
  rw [List.length_append, List.length_append]
  have : (if n = true then [(45 : UInt8)] else []).length ≤ 1 := by cases n <;> decide
  have : (if q = 1 then [] else 47 :: Lib.decDigits q).length ≤ 10 * m + 2 := by
    split
    · simp
    · simp; omega
  simp only [] at *
  omega
end Go.Proofs.YthppjdmkinbccaaGreatDoor.Ref

namespace Go.Proofs.YthppjdmkinbccaaGreatDoor.Pure
open Go.RowKit Go.Proofs.YthppjdmkinbccaaGreatDoorW.PrintWords Go.Proofs.YthppjdmkinbccaaGreatDoorW.PrintLast Go.Proofs.YthppjdmkinbccaaGreatDoor.Print Go.Proofs.YthppjdmkinbccaaGreatDoor.Base Go.Proofs.YthppjdmkinbccaaGreatDoor.Ref
set_option linter.unusedVariables false
set_option linter.unusedSimpArgs false
theorem hk : Ev (fun k => (kn9.f k).bind fun t => some t) true := Ev.bind known_Ev (Ev.now _)
theorem back3 (l : List UInt8) (hl : l.length ≤ 140737488351232) : Ev (fun k => Back9.j3 k (bA l) false) true := by
  by_cases h : ((bA l).size : Int) > 120
  · refine Ev.step (fun k => ?_) hk
    simp only [Back9.j3]; rw [if_neg (by decide), if_pos h]
  · refine Ev.step (f := fun k => (digits_ParseRat.f k (bA l)).bind fun bt140 => (if bt140.2.2.2 = 0 then ((digits_Rat.f k bt140.1 bt140.2.1 bt140.2.2.1).bind fun t149 => (if t149.toList = (bA l).toList then ((kn9.f k).bind fun t150 => (some t150)) else (none))) else ((kn9.f k).bind fun t151 => (some t151)))) (fun k => ?_) (Ev.bind (progR_ev l hl) ?_)
    · simp only [Back9.j3]; rw [if_neg (by decide), if_neg h]
    · by_cases e : (resR l).1 = 0
      · obtain ⟨q1, q2, q3, q4⟩ := resR_ok e
        have ht := ratP_ev (n := (resR l).2.1) (okD q1 (by decide)) (okD q2 (by decide)) (digB_len (by decide) q1) (digB_len (by decide) q2) (by decide) (by decide)
        rw [valD, valD, q4, q3] at ht
        unfold outR
        rw [if_pos e]
        refine Ev.congr (fun k => by rw [if_pos rfl]) (Ev.bind ht ?_)
        exact Ev.congr (fun k => by rw [if_pos rfl]) hk
      · unfold outR
        rw [if_neg e]
        exact Ev.congr (fun k => by rw [if_neg e]) hk
theorem back2 (l : List UInt8) (hl : l.length ≤ 140737488351232) : Ev (fun k => Back9.j2 k (bA l) false) true := by
  have h3 := back3 l hl
  refine Ev.step (f := fun k => if (progNat l).2 = 0 then ((digits_Nat.f (progNat l).1).bind fun t138 => Back9.j3 k (bA l) (t138.toList != (bA l).toList)) else Back9.j3 k (bA l) false) (fun k => ?_) ?_
  · simp only [Back9.j2]
    rw [if_neg (by decide), prog_f, bA_list]; rfl
  · rcases read_same l with ⟨e1, _⟩ | ⟨e1, _⟩ | ⟨hn, _, hlt, e1, _⟩
    · rw [e1]; exact Ev.congr (fun k => by rw [if_neg (by decide)]) h3
    · rw [e1]; exact Ev.congr (fun k => by rw [if_neg (by decide)]) h3
    · rw [e1]
      refine Ev.congr (fun k => ?_) h3
      rw [if_pos rfl, Ref.nat_f (okD hlt (by decide)), valD, Option.bind_some, decB_list, bA_toList, dec_numL (natB_iff.1 hn)]
      congr 1
      simp
theorem back1 (n : Bool) {a b : List Int} (ha : okN a = true) (hb : okN b = true) (la : a.length ≤ 8) (lb : b.length ≤ 8) (l : List UInt8) (hl : l.length ≤ 140737488351232) : Ev (fun k => Back9.j1 k (bA l) n a b) true := by
  have hx := Nat.lt_of_lt_of_le (valB_lt 4294967296 a (okN_iff.1 ha).2) (Nat.pow_le_pow_right (by decide) la)
  have hy := Nat.lt_of_lt_of_le (valB_lt 4294967296 b (okN_iff.1 hb).2) (Nat.pow_le_pow_right (by decide) lb)
  have ht := ratP_ev (n := n) ha hb la lb (by decide) (by decide)
  have ho := ofR_ev (n := n) (okN_iff.1 ha).2 (okN_iff.1 hb).2 (by omega) (by omega)
  have hr := resR_txt (n := n) hx hy (by decide) (by decide)
  obtain ⟨hp, hq⟩ := ratN_lt (n := n) hx hy (by decide)
  generalize ratN n (valB 4294967296 a) (valB 4294967296 b) = r at ht ho hr hp hq
  obtain ⟨s, p, q⟩ := r
  simp only [] at hp hq
  have hpr := progR_ev (txt (s, p, q)) (by have := txt_len (n := s) hp hq; omega)
  rw [hr] at hpr
  have hi := is3_ev (n := s) hp hq (by decide)
  refine Ev.step (f := fun k => (digits_Rat.f k n a b).bind fun t116 => ((digits_ParseRat.f k t116).bind fun bt117 => (if bt117.2.2.2 = 0 then ((r3Of.f k n a b).bind fun bt126 => ((r3Is.f k bt126.1 bt126.2.1 bt126.2.2 bt117.1 bt117.2.1 bt117.2.2.1).bind fun t133 => (Back9.j2 k (bA l) (!t133)))) else (Back9.j2 k (bA l) true)))) (fun k => rfl) (Ev.bind ht (Ev.bind hpr ?_))
  unfold outR
  rw [if_pos rfl]
  exact Ev.congr (fun k => by rw [if_pos rfl]) (Ev.bind ho (Ev.bind hi (back2 l hl)))
theorem DigitsBack (l0 : List Int) (n : Bool) (l1 l2 : List Int) (s : ByteArray) (w0 : ∀ x ∈ l0, (Lit.int .u32 x).wf = true) (w1 : ∀ x ∈ l1, (Lit.int .u32 x).wf = true) (w2 : ∀ x ∈ l2, (Lit.int .u32 x).wf = true) (hs : s.size ≤ 140737488351232) :
    ∃ k, Back9.f k l0 n l1 l2 s = some true := by
  refine Ev.rounds (r := true) ?_
  rw [← bA_self s] at hs ⊢
  generalize s.data.toList = l at hs ⊢
  rw [bA_size] at hs
  have kn : Ev (fun k => Back9.j0 k l0 (bA l) true n l1 l2) true := Ev.step (fun k => rfl) hk
  by_cases h0 : (l0.length : Int) > 40
  · refine Ev.congr (fun k => ?_) kn
    unfold Back9.f; rw [if_pos h0]
  · by_cases h1 : (l1.length : Int) > 8
    · refine Ev.congr (fun k => ?_) kn
      unfold Back9.f; rw [if_neg h0, if_pos h1]
    · by_cases h2 : (l2.length : Int) > 8
      · refine Ev.congr (fun k => ?_) kn
        unfold Back9.f; rw [if_neg h0, if_neg h1, decide_eq_true h2]
      · have o0 := Ref.wf_ok (by omega) w0
        have o1 := Ref.wf_ok (by omega) w1
        have o2 := Ref.wf_ok (by omega) w2
        have b1 := back1 n o1 o2 (by omega) (by omega) l hs
        have hd := (okN_iff.1 o0).2
        have hof := of_ev hd (by omega)
        have hX := valB_lt 4294967296 l0 hd
        obtain ⟨np, pp⟩ := prog_dec (valB 4294967296 l0)
        generalize hv : valB 4294967296 l0 = v at hof hX pp np
        have l3 := T_len hX
        have hX2 : v < 2 ^ (32 * l0.length) := by rw [Nat.pow_mul]; exact hX
        have hb := bits_ev hX2 (by omega) (by omega)
        obtain ⟨m, hm⟩ : ∃ m : Nat, m = 1024 := ⟨_, rfl⟩
        have hlim := nb_le (x := v) (n := m)
        rw [← limbs_most m 32 (by omega) rfl] at hlim
        refine Ev.congr (f := fun k => Back9.j0 k l0 (bA l) false n l1 l2) (fun k => ?_) ?_
        · unfold Back9.f; rw [if_neg h0, if_neg h1, decide_eq_false h2]
        · refine Ev.step (f := fun k => (r1Of.f k l0).bind fun t108 => ((r1B.f k t108).bind fun t111 => (if t111 > 1024 then (if (progNat (Lib.decDigits v)).2 = 14 then (if ((progNat (Lib.decDigits v)).1.length : Int) = 0 then (Back9.j1 k (bA l) n l1 l2) else (none)) else (none)) else (if (progNat (Lib.decDigits v)).2 = 0 then ((r1Of.f k l0).bind fun t112 => ((r1Is.f k t112 (progNat (Lib.decDigits v)).1).bind fun t115 => (if t115 = true then (Back9.j1 k (bA l) n l1 l2) else (none)))) else (none))))) (fun k => ?_) (Ev.bind hof (Ev.bind hb ?_))
          · simp only [Back9.j0]
            rw [if_neg (by decide), Ref.nat_f o0, hv, Option.bind_some, prog_f, decB_data]; rfl
          · rw [pp]
            by_cases hc : v < 4294967296 ^ 32
            · have hi := is_ev (x := v) hc (by decide)
              rw [decide_eq_true rfl] at hi
              have hnb := hlim.2 hc
              rw [if_pos hc]
              refine Ev.congr (fun k => by rw [if_neg (by omega), if_pos rfl]) (Ev.bind hof (Ev.bind hi ?_))
              exact Ev.congr (fun k => by rw [if_pos rfl]) b1
            · have hnb : ¬ nb v ≤ m := fun x => hc (hlim.1 x)
              rw [if_neg hc]
              exact Ev.congr (fun k => by rw [if_pos (by omega), if_pos rfl]; rfl) b1
end Go.Proofs.YthppjdmkinbccaaGreatDoor.Pure

namespace Go.Proofs.YthppjdmkinbccaaGreatDoor.Print
open Go.ChangeShapes Go.WideShapes Go.ChangeAt Go.RowKit Go.Proofs.YthppjdmkinbccaaGreatDoorW.PrintWords
set_option linter.unusedVariables false
def IsRowU (k : IntKind) (w : World) (a : Option Addr) (len cap : Nat) (zs : List Int) : Prop :=
  (a = none ∧ len = 0 ∧ cap = 0 ∧ zs = []) ∨
  ∃ x, a = some x ∧ len ≤ cap ∧ cap ≤ maxLen ∧ zs.length = cap ∧ (∀ i, i < zs.length → w.cell? (x.add i) = some (.int k (zs.getD i 0))) ∧ ∀ n ∈ zs, (Lit.int k n).wf = true
theorem sized_parts {H : Type} {P : Program} {t : TypeId} {fs : Array Field} {ts : List TypeId} {ds : List (DataW H)} {j : Nat} {parts : List (DataW H)}
    (hsz : (DataW.weightsEach P ts ds).all (· ≤ reachBytes) = true) (ht : ts[j]? = some t) (hd : ds[j]? = some (.agg parts)) (hu : P.underlying t = some (.struct fs)) :
    (DataW.weightsEach P (fs.toList.map (·.type)) parts).all (· ≤ reachBytes) = true := by
  rw [List.all_eq_true] at hsz ⊢
  intro n hn
  refine hsz n (DataW.weights_mem_each ht hd n ?_)
  simp only [DataW.weights, hu]
  exact hn
structure InNat (W : World) (v : Value) (A : Option Addr) (c : Nat) (l : List Int) : Prop where
  eq : v = .slice A l.length c
  cells : Kd.C (Kd.int .u32) W A l.length l
  cap : l.length ≤ c
  max : l.length ≤ maxLen
  size : l.length * 4 ≤ 140737488351232
  wf : ∀ x ∈ l, (Lit.int .u32 x).wf = true
section
variable {H : Type} {enc : TypeId × Value → H} {W : World}
theorem open_nat {v : Value} {d : DataW H} {p : List MemPlace} {ts : List TypeId} {ds : List (DataW H)} {j : Nat} (hsz : (DataW.weightsEach Tryz.prog ts ds).all (· ≤ reachBytes) = true) (ht : ts[j]? = some 23) (hd : ds[j]? = some d)
    (hv : ∃ A len cap, v = .slice A len cap) (h : DataW.Trod enc Tryz.prog W 0 (fun _ => true) true 23 v d p) : ∃ A c l, InNat W v A c l := by
  obtain ⟨a0, len0, cap0, rfl⟩ := hv
  obtain ⟨z0, w0⟩ : ∃ zs, IsRowU .u32 W a0 len0 cap0 zs := by
    obtain ⟨fuel, hf⟩ := h
    rcases open_ints Tryz.underlying23 Tryz.underlying56 (by kernel_rfl) hf with ⟨hcs, _⟩ | ⟨x, l, c, zs, hcs, _, hl, hm, hz, _, hcell, hwz⟩
    · simp [Value.cells] at hcs
      obtain ⟨rfl, rfl, rfl⟩ := hcs
      exact ⟨[], .inl ⟨rfl, rfl, rfl, rfl⟩⟩
    · simp [Value.cells] at hcs
      obtain ⟨rfl, rfl, rfl⟩ := hcs
      exact ⟨zs, .inr ⟨_, rfl, hl, hm, by simpa using hz, hcell, hwz⟩⟩
  have y0 : len0 * 4 ≤ 140737488351232 := sized_ints hsz ht hd Tryz.underlying23 Tryz.underlying56 (by kernel_rfl) (by kernel_rfl) h
  obtain ⟨l0, rfl, hr0, hm0, hw0, hc0⟩ := ReadsInt.ofRowC w0
  exact ⟨_, _, l0, rfl, Kd.C_of_reads (d := (0 : Int)) (h1 := fun _ => rfl) hr0, hc0, hm0, y0, hw0⟩
set_option maxRecDepth 100000 in
theorem open_rat {r : Reach} {b0 : Nat} {v : Value} {d : DataW H} {p : List MemPlace} {ts : List TypeId} {ds : List (DataW H)} {j : Nat} (hsz : (DataW.weightsEach Tryz.prog ts ds).all (· ≤ reachBytes) = true) (ht : ts[j]? = some 35) (hd : ds[j]? = some d)
    (hv : Value.okWide Tryz.prog W r b0 35 v) (h : DataW.Trod enc Tryz.prog W 0 (fun _ => true) true 35 v d p) :
    ∃ (o : Bool) (v1 v2 : Value) (A1 : Option Addr) (c1 : Nat) (l1 : List Int) (A2 : Option Addr) (c2 : Nat) (l2 : List Int), v = .agg #[.bool o, v1, v2] ∧ InNat W v1 A1 c1 l1 ∧ InNat W v2 A2 c2 l2 := by
  obtain ⟨u0, u1, u2, y0, y1, y2, n, rfl, rfl, rfl, h0, h1, h2⟩ := Go.Joins.open_agg3 Tryz.underlying35 (by kernel_rfl) (by kernel_rfl) hv h
  have hsf := sized_parts hsz ht hd Tryz.underlying35
  obtain ⟨o, ho, hy0⟩ := DataW.trod_bool Tryz.underlying4 h0
  obtain ⟨a1, m1, q1, e1⟩ := Go.Joins.slice_form Tryz.underlying23 h1
  obtain ⟨a2, m2, q2, e2⟩ := Go.Joins.slice_form Tryz.underlying23 h2
  obtain rfl : u0 = .bool o := by simpa using ho
  obtain rfl : u1 = .slice a1 m1 q1 := by simpa using e1
  obtain rfl : u2 = .slice a2 m2 q2 := by simpa using e2
  obtain ⟨A1, k1, l1, r1⟩ := open_nat (enc := enc) (W := W) (v := .slice a1 m1 q1) (d := y1.1) (p := y1.2) hsf (j := 1) rfl rfl ⟨_, _, _, rfl⟩ ⟨n, by simpa [Value.cells] using h1⟩
  obtain ⟨A2, k2, l2, r2⟩ := open_nat (enc := enc) (W := W) (v := .slice a2 m2 q2) (d := y2.1) (p := y2.2) hsf (j := 2) rfl rfl ⟨_, _, _, rfl⟩ ⟨n, by simpa [Value.cells] using h2⟩
  exact ⟨o, _, _, A1, k1, l1, A2, k2, l2, rfl, r1, r2⟩
end
end Go.Proofs.YthppjdmkinbccaaGreatDoor.Print

namespace Go.Proofs.YthppjdmkinbccaaGreatDoor.digitsBack
open Go.ChangeShapes Go.WideShapes Go.ChangeAt Go.RowKit
open Go.ChangeMaps (open_string shut_string)
set_option linter.unusedVariables false
theorem own : ownKnob Tryz.prog.godebug = none := by kernel_rfl
theorem laidOut : laidOutB Tryz.prog = true := by kernel_rfl
noncomputable abbrev W0 (os : Os) : World := World.laidAll Tryz.prog os Rows.digitsBackRow.laid
theorem laid_met (os : Os) (args : Array Value) : laidMet Tryz.prog Rows.digitsBackRow.laid ((W0 os).forCall (fun _ _ => 0) ⟨#[], args, []⟩).memory :=
  laidMet_laidAll args (by kernel_rfl) (by kernel_rfl)
theorem witness_row (os : Os) {H : Type} (enc : TypeId × Value → H) :
    (OpenSpec.ofChange Rows.digitsBackSpec).preRow enc Tryz.prog Tryz.f6 Rows.digitsBackRow.domain false Rows.digitsBackRow.laid ((W0 os).forCall (fun _ _ => 0) ⟨#[], #[Value.slice none 0 0, Value.agg #[.bool false, .slice none 0 0, .slice none 0 0], Value.string ⟨#[]⟩], []⟩).memory #[Value.slice none 0 0, Value.agg #[.bool false, .slice none 0 0, .slice none 0 0], Value.string ⟨#[]⟩] := by
  have hw : (DataW.whole enc Tryz.prog ((W0 os).forCall (fun _ _ => 0) ⟨#[], #[Value.slice none 0 0, Value.agg #[.bool false, .slice none 0 0, .slice none 0 0], Value.string ⟨#[]⟩], []⟩).memory Tryz.f6.params.toList (OpenSpec.ofChange Rows.digitsBackSpec).vars false #[Value.slice none 0 0, Value.agg #[.bool false, .slice none 0 0, .slice none 0 0], Value.string ⟨#[]⟩].toList 8).map (fun x => (x.1, x.2.1)) =
      some ([.nil, .agg [.lit (.bool false), .nil, .nil], .lit (.string [])], []) := by kernel_rfl
  obtain ⟨⟨x1, x2, x3⟩, hx, hx1⟩ := Option.map_eq_some_iff.1 hw
  simp only [Prod.mk.injEq] at hx1
  obtain ⟨rfl, rfl⟩ := hx1
  exact OpenSpec.preRow_of_cond 8 hx (by kernel_rfl) (fun k hk => by cases hk) (by kernel_rfl) (laid_met os _)
set_option maxRecDepth 100000 in
theorem lifted (os : Os) (started : os.Started) (H : Type) (enc : TypeId × Value → H) (G : Stop.Interp) :
    ReturnsInHanded {} Tryz.checked os 6 .any ((OpenSpec.ofChange Rows.digitsBackSpec).preRow enc Tryz.prog Tryz.f6 Rows.digitsBackRow.domain false Rows.digitsBackRow.laid) (((OpenSpec.ofChange Rows.digitsBackSpec).at G).post enc Tryz.prog Tryz.f6 false true false false) := by
  refine returnsInHanded_of_row (C := Tryz.checked) (s := OpenSpec.ofChange Rows.digitsBackSpec) own started (by kernel_rfl) Tryz.func6
    (witness_row_atRef (enc := enc) (C := Tryz.checked) false (W0 os) #[Value.slice none 0 0, Value.agg #[.bool false, .slice none 0 0, .slice none 0 0], Value.string ⟨#[]⟩] (World.laidAll_os _ _ _) (by kernel_rfl) (by kernel_rfl) (by kernel_rfl) (witness_row os enc)) ?_
  intro W base args ds gs before hval0 hW hcnd _ hsz0 hL _ _
  have hsz : (DataW.weightsEach Tryz.prog (Tryz.f6.params.toList ++ (OpenSpec.ofChange Rows.digitsBackSpec).bare.plain.varTypes Tryz.prog) (ds ++ gs)).all (· ≤ reachBytes) = true := hsz0
  have hval : ∀ (j : Nat) t v, Tryz.f6.params[j]? = some t → args[j]? = some v → Value.okWide Tryz.prog W .any base t v := hval0
  have hW' := hW
  obtain ⟨p, q, hA0, hV, rfl, hfz, hnd⟩ := hW
  have hA : DataW.TrodAll enc Tryz.prog W 0 (fun _ => true) true Tryz.f6.params.toList args.toList ds p := hA0
  rw [Tryz.params6] at hA hval hsz
  obtain ⟨v0, vs0, d0, ds0, p0, q0, hargs, rfl, rfl, h0, r0⟩ := trodAll_cons hA
  obtain ⟨v1, vs1, d1, ds1, p1, q1, rfl, rfl, rfl, h1, r1⟩ := trodAll_cons r0
  obtain ⟨v2, vs2, d2, ds2, p2, q2, rfl, rfl, rfl, h2, r2⟩ := trodAll_cons r1
  obtain ⟨rfl, rfl, rfl⟩ := trodAll_nil r2
  obtain rfl : args = #[v0, v1, v2] := by cases args; simp_all
  obtain ⟨rfl, rfl⟩ := trodVars_none hV
  have k0 := h0
  have lt0 : ∀ x ∈ p0, x.block < W.heap.size := by obtain ⟨m, hm⟩ := k0; exact DataW.trod_lt m _ _ _ hm
  obtain ⟨A0, c0, l0, N0⟩ := Print.open_nat hsz (j := 0) rfl rfl (okWide_slice Tryz.underlying23 (hval 0 23 v0 rfl rfl)) h0
  obtain rfl := N0.eq
  have k1 := h1
  have lt1 : ∀ x ∈ p1, x.block < W.heap.size := by obtain ⟨m, hm⟩ := k1; exact DataW.trod_lt m _ _ _ hm
  obtain ⟨o1, u1, t1, A1, c1, l1, B1, e1, m1, rfl, R1, S1⟩ := Print.open_rat hsz (j := 1) rfl rfl (hval 1 35 v1 rfl rfl) h1
  obtain rfl := R1.eq
  obtain rfl := S1.eq
  obtain ⟨s2, rfl, rfl, rfl, y2⟩ := open_string Tryz.underlying9 (hval 2 9 v2 rfl rfl) h2
  have w2 : s2.size ≤ 140737488351232 := by
    have z := sized_string hsz (j := 2) (t := 9) rfl rfl
    rw [Array.length_toList] at z
    exact z
  have hL' : laidMet Tryz.prog Rows.digitsBackRow.laid W := hL
  have hT : Print.PowTab W := Lib.tabIs_of_head (g := 1) (t := 151) (e := 59) (n := 20) (by kernel_rfl) (by kernel_rfl) Tryz.underlying151 Tryz.underlying59 (by kernel_rfl) (by kernel_rfl) hL'.tail.tail
  clear hA0 hval0 hsz0 hsz
  obtain ⟨k, hk⟩ := Pure.DigitsBack l0 o1 l1 m1 s2 N0.wf R1.wf S1.wf w2
  refine (Print.Back9.calls k A0 c0 l0 o1 A1 c1 l1 B1 e1 m1 s2 true W hT N0.cells N0.cap R1.cells R1.cap S1.cells S1.cap hk).mono fun e W' ⟨he, bel⟩ => ?_
  subst he
  exact ⟨_, rfl, _, _, _, [], _, [], hW', trodAll_mk1 (shut_bool Tryz.underlying4 _), (trodAll_cons_mk (Below.trod laidOut (by kernel_rfl) (of_decide_eq_true (by kernel_rfl)) k0 bel lt0) (trodAll_cons_mk (Below.trod laidOut (by kernel_rfl) (of_decide_eq_true (by kernel_rfl)) k1 bel lt1) (trodAll_cons_mk (shut_string Tryz.underlying9 y2) trodAll_mk0))), rfl, bel.frame _, fun h => by cases h⟩
theorem said : Rows.DigitsBackSaid :=
  OpenClaim.holds_of_cond 6 Tryz.f6 rfl rfl rfl rfl rfl rfl rfl ⟨rfl, rfl, rfl, rfl, rfl⟩ rfl rfl rfl rfl rfl (by kernel_rfl) Tryz.func6 (by kernel_rfl)
    (of_decide_eq_true (by kernel_rfl)) (by unfold Func.isWrapper; first | (rw [if_pos (by decide +kernel)]; kernel_rfl) | (rw [if_neg (by decide +kernel)]; exact ⟨rfl, rfl⟩))
    (fun os started H enc _ F => by rw [OpenClaim.pre_eq_preRow]; exact lifted os started H enc F)
theorem plain (f : FuncId) (fn : Func) (hf : Tryz.pinned.checked.prog.funcNamed "fluxion/fluxionlaw04.DigitsBack" = some f) (hfn : Tryz.pinned.checked.prog.funcs[f]? = some fn) :
    true = Tryz.pinned.checked.prog.looks [] ∧ ∀ (j : Nat) t, fn.params[j]? = some t → Tryz.pinned.checked.prog.wantsStandIn t = false := by
  obtain rfl : f = 6 := Option.some.inj ((show Tryz.prog.funcNamed "fluxion/fluxionlaw04.DigitsBack" = some 6 by kernel_rfl).symm.trans hf) |>.symm
  obtain rfl : fn = Tryz.f6 := (Option.some.inj (Tryz.func6.symm.trans hfn)).symm
  refine ⟨by kernel_rfl, fun j t ht => ?_⟩
  rw [Tryz.params6] at ht
  have hall : ∀ t ∈ Tryz.f6.params, Tryz.prog.wantsStandIn t = false := of_decide_eq_true (by kernel_rfl)
  exact hall t (by rw [Tryz.params6]; exact Array.mem_of_getElem? ht)
theorem card : Rows.DigitsBackCardSaid :=
  Claim7.holds_tied_plain_at .later [] _ _ _ _ said (fun _ h => by cases h) (by kernel_rfl) (fun _ h => by cases h) digitsBack_row_tie rfl ⟨rfl, rfl⟩ (by kernel_rfl) rfl plain (by kernel_rfl)
#print axioms card
end Go.Proofs.YthppjdmkinbccaaGreatDoor.digitsBack
namespace Go.Proofs.YthppjdmkinbccaaGreatDoor
theorem digitsBack_holds : Rows.DigitsBackCardSaid := digitsBack.card
end Go.Proofs.YthppjdmkinbccaaGreatDoor
