/- Plain laws on numbers' words: the word of a number, and what it is read as. No condition beyond those written. -/
import Derived.Test.YtnafcffecneebaaDoorPuLines
import Derived.Test.YtnafcffecneebaaDoorHNum
import Derived.Test.YtnafcffecneebaaDoorHRead
import Derived.Test.YtnafcffecneebaaDoorB4
import Derived.Test.YtnafcffecneebaaDoorB3
import Derived.Test.YtnafcffecneebaaDoorA8
namespace Go.Proofs.YtnafcffecneebaaDoor.Print
open Go.RowKit Go.Proofs.YtnafcffecneebaaDoorW.PrintWords Go.Proofs.YtnafcffecneebaaDoorW.PrintLast Go.Proofs.YtnafcffecneebaaDoorW.PrintMore
set_option linter.unusedVariables false
set_option linter.unusedSimpArgs false

def D (u : Nat) : List UInt8 := Lib.decDigits u
theorem D_small {u : Nat} (h : u < 10) : D u = [UInt8.ofNat (48 + u)] := Lib.decDigits_one h
theorem D_big {u : Nat} (h : ¬ u < 10) : D u = D (u / 10) ++ [UInt8.ofNat (48 + u % 10)] := by
  unfold D; rw [Lib.decDigits, dif_neg h]
theorem dig_toNat (d : Nat) (h : d < 10) : (UInt8.ofNat (48 + d)).toNat = 48 + d := by
  rw [UInt8.toNat_ofNat']; omega
theorem D_dig : ∀ (u : Nat), ∀ c ∈ D u, 48 ≤ c.toNat ∧ c.toNat ≤ 57
  | u => by
    by_cases h : u < 10
    · rw [D_small h]; intro c hc
      obtain rfl := List.mem_singleton.1 hc
      rw [dig_toNat u h]; omega
    · rw [D_big h]; intro c hc
      rcases List.mem_append.1 hc with x | x
      · exact D_dig (u / 10) c x
      · obtain rfl := List.mem_singleton.1 x
        rw [dig_toNat _ (by omega)]; omega
termination_by u => u
theorem D_pos (u : Nat) : D u ≠ [] := by
  by_cases h : u < 10
  · rw [D_small h]; simp
  · rw [D_big h]; simp
theorem D_len (u : Nat) (h : u < 10 ^ 20) : (D u).length ≤ 20 := by
  have : ∀ (n u : Nat), u < 10 ^ (n + 1) → (D u).length ≤ n + 1 := by
    intro n
    induction n with
    | zero => intro u h; rw [D_small (by simpa using h)]; simp
    | succ n ih =>
      intro u h
      by_cases h10 : u < 10
      · rw [D_small h10]; simp
      · rw [D_big h10]
        have := ih (u / 10) (by rw [Nat.pow_succ] at h; omega)
        simp; omega
  exact this 19 u h
theorem D_head (u : Nat) (h : 1 ≤ u) : ∃ c r, D u = c :: r ∧ c.toNat ≠ 48 := by
  induction u using Nat.strongRecOn with
  | _ u ih =>
    by_cases h10 : u < 10
    · exact ⟨_, [], D_small h10, by rw [dig_toNat u h10]; omega⟩
    · obtain ⟨c, r, e, hc⟩ := ih (u / 10) (by omega) (by omega)
      exact ⟨c, r ++ [UInt8.ofNat (48 + u % 10)], by rw [D_big h10, e]; rfl, hc⟩
theorem parse_append (M : Nat) : ∀ (l : List UInt8) (a v : Nat) (c : UInt8), Lib.parseUintM M a l = .ok v → Lib.parseUintM M a (l ++ [c]) = Lib.parseUintM M v [c]
  | [], a, v, c, h => by simp only [Lib.parseUintM] at h; cases h; rfl
  | x :: r, a, v, c, h => by
    simp only [List.cons_append, Lib.parseUintM] at h ⊢
    by_cases h1 : 48 ≤ x.toNat ∧ x.toNat ≤ 57
    · rw [if_pos h1] at h ⊢
      by_cases h2 : 1844674407370955162 ≤ a
      · rw [if_pos h2] at h; cases h
      · rw [if_neg h2] at h ⊢
        by_cases h3 : M < a * 10 + (x.toNat - 48)
        · rw [if_pos h3] at h; cases h
        · rw [if_neg h3] at h ⊢; exact parse_append M r _ v c h
    · rw [if_neg h1] at h; cases h
theorem parse_D : ∀ (u : Nat), u < 18446744073709551616 → Lib.parseUintM 18446744073709551615 0 (D u) = .ok u
  | u, hu => by
    by_cases h : u < 10
    · rw [D_small h]
      simp only [Lib.parseUintM]
      rw [dig_toNat u h, if_pos (by omega), if_neg (by omega), if_neg (by omega)]
      congr 1; omega
    · rw [D_big h, parse_append _ _ 0 (u / 10) _ (parse_D (u / 10) (by omega))]
      simp only [Lib.parseUintM]
      rw [dig_toNat _ (by omega), if_pos (by omega), if_neg (by omega), if_neg (by omega)]
      congr 1; omega
termination_by u => u
theorem parseB_D (u : Nat) (hu : u < 18446744073709551616) : Lib.parseUintB 64 (D u) = .ok u := by
  unfold Lib.parseUintB; rw [if_neg (D_pos u)]; exact parse_D u hu
def bD (u : Nat) : ByteArray := ⟨(D u).toArray⟩
theorem bD_list (u : Nat) : (bD u).data.toList = D u := by simp [bD]
theorem bD_size (u : Nat) : (bD u).size = (D u).length := by rw [size_len, bD_list]
theorem natB_D (u : Nat) : natB (bD u) = true := by
  rw [natB_end, if_pos (fun j hj _ => by
    have hj' : j < (bD u).data.toList.length := by rw [← size_len]; exact hj
    unfold digAt
    rw [bt_list _ _ hj']
    have hm : (bD u).data.toList[j] ∈ D u := by rw [← bD_list]; exact List.getElem_mem hj'
    have := D_dig u _ hm
    exact (inB_iff _ _ _).2 (by omega))]
  unfold endS
  by_cases h1 : (bD u).size = 1
  · rw [if_pos h1]
  · have h0 : (D u).length ≠ 0 := fun e => D_pos u (List.eq_nil_of_length_eq_zero e)
    rw [if_neg h1, if_pos (by rw [bD_size] at h1 ⊢; omega)]
    have hu : 1 ≤ u := by
      rcases Nat.eq_zero_or_pos u with rfl | h
      · exact absurd (by rw [bD_size, D_small (by omega)]; rfl) h1
      · exact h
    obtain ⟨c, r, e, hc⟩ := D_head u hu
    have hj' : 0 < (bD u).data.toList.length := by rw [bD_list, e]; simp
    have hb := bt_list (bD u) 0 hj'
    have e2 : (bD u).data.toList[0] = c := by simp [bD_list, e]
    rw [show bt (bD u) 0 = ((c.toNat : Nat) : Int) by rw [← e2]; exact hb]
    simp; omega
theorem read_D (u : Nat) (hu : u < 18446744073709551616) : lex_read.f (bD u) = some (readN u) := by
  have hl := D_len u (by omega)
  unfold lex_read.f
  rw [if_pos (by rw [bD_size]; omega), natB_D, if_pos rfl, bD_list, parseB_D u hu]
/-! The document's Num -/
theorem piece (d : Nat) (h : d < 10) : (⟨#[48, 49, 50, 51, 52, 53, 54, 55, 56, 57]⟩ : ByteArray).extract d (d + 1) = ⟨#[UInt8.ofNat (48 + d)]⟩ := by
  rcases (by omega : d = 0 ∨ d = 1 ∨ d = 2 ∨ d = 3 ∨ d = 4 ∨ d = 5 ∨ d = 6 ∨ d = 7 ∨ d = 8 ∨ d = 9) with rfl | rfl | rfl | rfl | rfl | rfl | rfl | rfl | rfl | rfl <;> rfl
theorem bD_small {u : Nat} (h : u < 10) : bD u = ⟨#[UInt8.ofNat (48 + u)]⟩ := by unfold bD; rw [D_small h]
theorem bD_big {u : Nat} (h : ¬ u < 10) : bD u = bD (u / 10) ++ bD (u % 10) := by
  refine Go.WideShapes.bytes_inj ?_
  rw [ByteArray.data_append, Array.toList_append, bD_list, bD_list, bD_list, D_big h, D_small (u := u % 10) (by omega)]
theorem num_small (d : Nat) (h : d < 10) (k : Nat) : fluxionref16_Num.f (k + 1) (d : Int) = some (bD d) := by
  simp only [fluxionref16_Num.f]
  rw [if_neg (by omega), if_pos (by omega), if_pos (by omega), wrap_id (by omega) (by omega), if_pos (by omega), if_pos (by omega), bD_small h]
  exact congrArg some (piece d h)
theorem num_ev : ∀ (u : Nat), u < 18446744073709551616 → u ≤ 9223372036854775807 → Ev (fun k => fluxionref16_Num.f k (u : Int)) (bD u)
  | u, hu, h63 => by
    by_cases h : u < 10
    · exact Ev.at 1 (fun k => num_small u h k)
    · have e1 : wrap64 (Int.tdiv (u : Int) 10) = ((u / 10 : Nat) : Int) := by
        rw [Int.tdiv_eq_ediv_of_nonneg (by omega)]; unfold wrap64; omega
      have e2 : Int.tmod (u : Int) 10 = ((u % 10 : Nat) : Int) := by
        rw [Int.tmod_eq_emod_of_nonneg (by omega)]; omega
      have ih := num_ev (u / 10) (by omega) (by omega)
      have l1 := D_len (u / 10) (by omega)
      have l2 := D_len (u % 10) (by omega)
      refine Ev.step (f := fun k => (fluxionref16_Num.f k ((u / 10 : Nat) : Int)).bind fun t => (fluxionref16_Num.f k ((u % 10 : Nat) : Int)).bind fun t2 => if t.size + t2.size ≤ 9223372036854775807 then some (t ++ t2) else none) (fun k => ?_) (Ev.bind ih (Ev.bind (Ev.at 1 (fun k => num_small (u % 10) (by omega) k)) ?_))
      · simp only [fluxionref16_Num.f]; rw [if_neg (by omega), if_neg (by omega), e1, e2]
      · rw [if_pos (by rw [bD_size, bD_size]; omega), ← bD_big h]; exact Ev.now _
termination_by u => u
theorem bD_one (d : Nat) (h : d < 10) (acc : ByteArray) : (⟨#[48, 49, 50, 51, 52, 53, 54, 55, 56, 57]⟩ : ByteArray).extract d (d + 1) ++ acc = bD d ++ acc := by rw [piece d h, bD_small h]
theorem numneg_ev : ∀ (u : Nat) (acc : ByteArray), u ≤ 9223372036854775808 → acc.size + (if u = 0 then 0 else (D u).length) ≤ 1000000 → 
    Ev (fun k => fluxionref16_Num.l0 k (-(u : Int)) acc) ((⟨#[45]⟩ : ByteArray) ++ (if u = 0 then acc else bD u ++ acc))
  | u, acc, hu, ha => by
    by_cases h : u = 0
    · subst h
      rw [if_pos rfl]
      refine Ev.at 1 (fun k => ?_)
      simp only [fluxionref16_Num.l0]; rw [if_neg (by omega), if_pos (by omega)]
    · rw [if_neg h]
      have e2 : wrap64 (-(Int.tmod (-(u : Int)) 10)) = ((u % 10 : Nat) : Int) := by
        rw [Int.neg_tmod, Int.tmod_eq_emod_of_nonneg (by omega)]; unfold wrap64; omega
      have e1 : wrap64 (Int.tdiv (-(u : Int)) 10) = -((u / 10 : Nat) : Int) := by
        rw [Int.neg_tdiv, Int.tdiv_eq_ediv_of_nonneg (by omega)]; unfold wrap64; omega
      have e3 : wrap64 (((u % 10 : Nat) : Int) + 1) = ((u % 10 + 1 : Nat) : Int) := by unfold wrap64; omega
      have hsz : ((⟨#[48, 49, 50, 51, 52, 53, 54, 55, 56, 57]⟩ : ByteArray).extract (u % 10) (u % 10 + 1)).size = 1 := by rw [piece _ (by omega)]; rfl
      have hl : (D u).length = (if u < 10 then 0 else (D (u / 10)).length) + 1 := by
        by_cases h10 : u < 10
        · rw [if_pos h10, D_small h10]; rfl
        · rw [if_neg h10, D_big h10]; simp
      have hl2 := D_len u (by omega)
      have hl3 := D_len (u / 10) (by omega)
      have hbs : (bD (u % 10) ++ acc).size = 1 + acc.size := by rw [ByteArray.size_append, bD_size, D_small (by omega)]; rfl
      have ih := numneg_ev (u / 10) (bD (u % 10) ++ acc) (by omega) (by
        rw [hbs]
        rw [if_neg h] at ha
        by_cases h10 : u < 10
        · rw [if_pos h10] at hl
          rw [if_pos (by omega)]; omega
        · rw [if_neg h10] at hl
          rw [if_neg (by omega)]; omega)
      have e4 : (if u / 10 = 0 then bD (u % 10) ++ acc else bD (u / 10) ++ (bD (u % 10) ++ acc)) = bD u ++ acc := by
        by_cases h10 : u < 10
        · rw [if_pos (by omega), show u % 10 = u by omega]
        · rw [if_neg (by omega), bD_big h10, ByteArray.append_assoc]
      rw [e4] at ih
      refine Ev.step (fun k => ?_) ih
      simp only [fluxionref16_Num.l0]
      rw [e2, e3, e1, if_pos (by omega), if_pos (by omega), if_pos (by omega), if_pos (by omega), show (((u % 10 : Nat) : Int)).toNat = u % 10 by omega, show (((u % 10 + 1 : Nat) : Int)).toNat = u % 10 + 1 by omega, if_pos (by rw [if_neg h] at ha; rw [hsz]; omega), bD_one _ (by omega)]
termination_by u => u
theorem numB_nat (u : Nat) : numB (u : Int) = bD u := by unfold numB bD D Lib.itoa; rw [if_neg (by omega)]; simp
theorem numB_neg (u : Nat) (h : 1 ≤ u) : numB (-(u : Int)) = (⟨#[45]⟩ : ByteArray) ++ bD u := by
  refine Go.WideShapes.bytes_inj ?_
  rw [ByteArray.data_append, Array.toList_append, bD_list]
  unfold numB Lib.itoa; rw [if_pos (by omega)]; simp [D]
theorem refnum_ev (n : Int) (h0 : -9223372036854775808 ≤ n) (h1 : n ≤ 9223372036854775807) : Ev (fun k => fluxionref16_Num.f k n) (numB n) := by
  by_cases h : 0 ≤ n
  · obtain ⟨u, rfl⟩ : ∃ u : Nat, n = (u : Int) := ⟨n.toNat, by omega⟩
    rw [numB_nat]; exact num_ev u (by omega) (by omega)
  · obtain ⟨u, rfl⟩ : ∃ u : Nat, n = -(u : Int) := ⟨(-n).toNat, by omega⟩
    have hl := D_len u (by omega)
    have := numneg_ev u ⟨#[]⟩ (by omega) (by rw [if_neg (by omega)]; show 0 + _ ≤ _; omega)
    rw [if_neg (by omega), show bD u ++ (⟨#[]⟩ : ByteArray) = bD u from Go.WideShapes.bytes_inj (by rw [ByteArray.data_append, Array.toList_append]; simp)] at this
    rw [numB_neg u (by omega)]
    refine Ev.step (fun k => ?_) this
    simp only [fluxionref16_Num.f]; rw [if_pos (by omega)]
theorem noprefix_D (u : Nat) (c : UInt8) (hc : c.toNat < 48) : Lib.hasPrefix (D u) [c] = false := by
  unfold Lib.hasPrefix
  cases hd : D u with
  | nil => exact absurd hd (D_pos u)
  | cons x r =>
    have hx := D_dig u x (by rw [hd]; simp)
    have : c ≠ x := fun e => by subst e; omega
    simp [List.isPrefixOf, this]
theorem cutp (c : UInt8) (s : ByteArray) : strings_CutPrefix.f ((⟨#[c]⟩ : ByteArray) ++ s) ⟨#[c]⟩ = some (s, true) := by
  have e : ((⟨#[c]⟩ : ByteArray) ++ s).data.toList = c :: s.data.toList := by rw [ByteArray.data_append, Array.toList_append]; rfl
  unfold strings_CutPrefix.f Lib.trimPrefix Lib.hasPrefix
  rw [e]
  simp [List.isPrefixOf]
theorem int_nat (u : Nat) (hu : u < 18446744073709551616) : Ev (fun k => lex_Int.f k (bD u)) (readN u) := by
  have hp : strings_CutPrefix.f (bD u) ⟨#[45]⟩ = some (bD u, false) := by
    unfold strings_CutPrefix.f Lib.trimPrefix
    rw [bD_list, show (⟨#[45]⟩ : ByteArray).data.toList = [45] from rfl, noprefix_D u 45 (by decide)]; rfl
  refine Ev.at 1 (fun k => ?_)
  unfold lex_Int.f
  rw [hp, Option.bind_some, if_neg (by intro h; cases h)]
  simp only [lex_Int.j0, Bool.false_eq_true, if_false]
  rw [read_D u hu]; rfl
theorem int_neg (u : Nat) (h1 : 1 ≤ u) (hu : u < 18446744073709551616) : Ev (fun k => lex_Int.f k ((⟨#[45]⟩ : ByteArray) ++ bD u)) (wrap64 (-(readN u).1), (readN u).2) := by
  refine Ev.at 1 (fun k => ?_)
  unfold lex_Int.f
  rw [cutp 45, Option.bind_some, if_pos rfl]
  have hz : ((bD u).toList == ([48] : List UInt8)) = false := by
    rw [Go.ByteArray.toList_eq, bD_list]
    obtain ⟨c, r, e, hc⟩ := D_head u h1
    rw [e]
    have : c ≠ 48 := fun x => hc (by rw [x]; rfl)
    simp [this]
  simp only [hz, lex_Int.j0, Bool.false_eq_true, if_false, if_true]
  rw [read_D u hu]; rfl
theorem ref_nat (u : Nat) (hu : u < 18446744073709551616) : lex_Ref.f ((⟨#[37]⟩ : ByteArray) ++ bD u) = some (readN u) := by
  unfold lex_Ref.f
  rw [cutp 37, Option.bind_some, if_pos rfl]
  simp only []
  rw [read_D u hu]; rfl
theorem ref_neg (u : Nat) (hu : u < 18446744073709551616) : lex_Ref.f ((⟨#[37]⟩ : ByteArray) ++ ((⟨#[45]⟩ : ByteArray) ++ bD u)) = some (0, 19) := by
  have hl := D_len u (by omega)
  have hs : ((⟨#[45]⟩ : ByteArray) ++ bD u).size = 1 + (D u).length := by rw [ByteArray.size_append, bD_size]; rfl
  have hn : natB ((⟨#[45]⟩ : ByteArray) ++ bD u) = false := by
    unfold natB
    rw [if_neg (fun c => by
      have := c 0 (by rw [hs]; omega)
      unfold digAt at this
      have hj : 0 < ((⟨#[45]⟩ : ByteArray) ++ bD u).data.toList.length := by rw [← size_len, hs]; omega
      have hb := bt_list _ 0 hj
      have e : ((⟨#[45]⟩ : ByteArray) ++ bD u).data.toList[0] = 45 := by simp
      rw [hb, e] at this
      exact absurd this (by decide))]
  unfold lex_Ref.f
  rw [cutp 37, Option.bind_some, if_pos rfl]
  simp only []
  unfold lex_read.f
  rw [if_pos (by rw [hs]; omega), hn, if_neg (by decide)]; rfl
end Go.Proofs.YtnafcffecneebaaDoor.Print
