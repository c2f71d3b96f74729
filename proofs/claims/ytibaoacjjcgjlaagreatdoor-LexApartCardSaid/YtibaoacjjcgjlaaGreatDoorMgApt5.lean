/- Written by wip/tools/claimtexts.py: these texts, one behind another, without what this claim does not use: HRead, HStr, E2, HKinds, HPlain, HRead16, HStrZ, HSplit. -/
import Derived.Test.YtibaoacjjcgjlaaGreatDoorMgApt2
import Derived.Test.YtibaoacjjcgjlaaGreatDoorMgApt4
import Derived.Test.YtibaoacjjcgjlaaGreatDoorMgApt3
import Derived.Ground.MpProg
import Derived.Shelf.Lay
import Derived.Lib.AtoiErrMem
import Derived.Shelf.Pu.ParseUintPublic10
import Derived.Ground.NamesProg
import Derived.Shelf.Strings.Search3
import Derived.Shelf.Small.Wraps
import Derived.Laws.Strings3
import Derived.RangeFuncBox
import Derived.WalkSpells
import Derived.Stop.LaidErr
import Derived.Shelf.Strings.Split
namespace Go.Proofs
open Go.RowKit Go.Shelf
shelf_lay LaysPu.n14 Mp 14 at Tryz as Tryz.layParseUint
end Go.Proofs
namespace Go.Proofs.YtibaoacjjcgjlaaGreatDoor.Print
open Go.RowKit Go.Shelf Go.Proofs.YtibaoacjjcgjlaaGreatDoorW.PrintWords Go.Proofs.YtibaoacjjcgjlaaGreatDoorW.PrintLast Go.Proofs.YtibaoacjjcgjlaaGreatDoorW.PrintMore Go.Proofs.YtibaoacjjcgjlaaGreatDoor.Base
set_option linter.unusedVariables false
set_option linter.unusedSimpArgs false
def numF (acc : Nat) (l : List UInt8) : Nat := l.foldl (fun a c => 10 * a + (c.toNat - 48)) acc
theorem numF_eq : ∀ (l : List UInt8) (acc : Nat), numF acc l = acc * 10 ^ l.length + numD l
  | [], acc => by simp [numF, numD]
  | c :: r, acc => by
    have e1 : numF acc (c :: r) = numF (10 * acc + (c.toNat - 48)) r := rfl
    have e2 : numD (c :: r) = numF (10 * 0 + (c.toNat - 48)) r := rfl
    rw [e1, e2, numF_eq r, numF_eq r, List.length_cons, Nat.pow_succ]
    rw [Nat.add_mul, Nat.mul_zero, Nat.zero_add, Nat.add_assoc]
    congr 1
    rw [Nat.mul_comm 10 acc, Nat.mul_assoc, Nat.mul_comm 10]
theorem numD_append (a b : List UInt8) : numD (a ++ b) = numD a * 10 ^ b.length + numD b := by
  rw [← numF_eq]
  simp [numD, numF, List.foldl_append]
theorem numD_lt : ∀ (l : List UInt8), DigL l → numD l < 10 ^ l.length
  | [], _ => by simp [numD]
  | c :: r, h => by
    have hc := h c (List.mem_cons_self ..)
    have ih := numD_lt r (fun x hx => h x (List.mem_cons_of_mem _ hx))
    have e2 : numD (c :: r) = numF (10 * 0 + (c.toNat - 48)) r := rfl
    rw [e2, numF_eq, List.length_cons, Nat.pow_succ, Nat.mul_zero, Nat.zero_add]
    have : (c.toNat - 48) * 10 ^ r.length ≤ 9 * 10 ^ r.length := Nat.mul_le_mul_right _ (by omega)
    omega
theorem parse_from : ∀ (l : List UInt8) (acc : Nat), DigL l → (acc + 1) * 10 ^ l.length ≤ 1000000000 → Lib.parseUintM 4294967295 acc l = .ok (numF acc l)
  | [], acc, _, _ => rfl
  | c :: r, acc, h, hb => by
    have hc := h c (List.mem_cons_self ..)
    rw [List.length_cons, Nat.pow_succ] at hb
    have hp : 1 ≤ 10 ^ r.length := Nat.pos_of_ne_zero (by simp)
    have h1 : (acc + 1) * 10 ≤ 1000000000 := by
      refine Nat.le_trans ?_ hb
      rw [Nat.mul_comm (10 ^ r.length)]
      rw [← Nat.mul_assoc]
      exact Nat.le_mul_of_pos_right _ hp
    unfold Lib.parseUintM
    rw [if_pos hc, if_neg (by omega), if_neg (by omega)]
    have e : acc * 10 + (c.toNat - 48) = 10 * acc + (c.toNat - 48) := by omega
    rw [e]
    refine parse_from r _ (fun x hx => h x (List.mem_cons_of_mem _ hx)) ?_
    refine Nat.le_trans (Nat.mul_le_mul_right _ (show 10 * acc + (c.toNat - 48) + 1 ≤ (acc + 1) * 10 by omega)) ?_
    rw [Nat.mul_assoc, Nat.mul_comm 10]
    exact hb
theorem parse_ok {l : List UInt8} (h : DigL l) (h0 : l ≠ []) (h9 : l.length ≤ 9) : Lib.parseUintB 32 l = .ok (numD l) := by
  unfold Lib.parseUintB
  rw [if_neg h0]
  refine parse_from l 0 h ?_
  rw [Nat.zero_add, Nat.one_mul]
  exact Nat.pow_le_pow_right (by decide) h9
theorem parse_calls (s : ByteArray) (hs : s.size ≤ 9) (h0 : s.data.toList ≠ []) (hd : DigL s.data.toList) (w : World) :
    Calls Tryz.prog 39 #[.string s, .int .i64 10, .int .i64 32] w fun e w' => e = .returned (.tuple #[.int .u64 ((numD s.data.toList : Nat) : Int), .nilIface]) ∧ Below w.heap.size w w' := by
  have hl : s.data.toList.length = s.size := by cases s; rfl
  refine (Any.strconv_ParseUint_10_at32_ok Tryz.layParseUint s (by omega) _ (parse_ok hd h0 (by omega)) w).mono ?_
  rintro e w' ⟨rfl, h⟩
  refine ⟨rfl, ?_⟩
  rcases h with rfl | rfl
  · exact Below.refl _ _
  · exact Lib.bytesWorld_below _ _ _
theorem big_ok {v : Nat} (h : v < (10 ^ 110) ^ 3) : (digB 4294967296 v).length ≤ 35 ∧ okN (digB 4294967296 v) = true := by
  have h2 : v < 4294967296 ^ 35 := Nat.lt_of_lt_of_le h (Nat.le_of_ble_eq_true rfl)
  exact ⟨digB_len (by decide) h2, okN_digB h2 (by decide)⟩
theorem of2_calls (p : Nat) (hp : p < 18446744073709551616) (w : World) :
    Calls Tryz.prog 34 #[.int .u64 (p : Int)] w fun e w' => ∃ A c, ∃ q : List Int, e = .returned (.slice A q.length c) ∧ q = digB 4294967296 p ∧ q.length ≤ c ∧ Kd.C (Kd.int .u32) w' A q.length q ∧ Below w.heap.size w w' := by
  refine (nat_Of.calls (p : Int) (digB 4294967296 p) w (by unfold nat_Of.f; rw [if_pos ⟨by omega, by omega⟩, Int.toNat_natCast])).mono ?_
  rintro e w' ⟨v, rfl, h, hb⟩
  obtain ⟨A, c, rfl, h1, h2⟩ := Kd.R_reads h
  exact ⟨A, c, _, rfl, rfl, h1, h2, hb⟩
theorem mul2_calls (A0 : Option Addr) (c0 : Nat) (x : List Int) (A1 : Option Addr) (c1 : Nat) (y : List Int) (a b : Nat) (w : World) (hr0 : Kd.C (Kd.int .u32) w A0 x.length x) (hc0 : x.length ≤ c0) (hr1 : Kd.C (Kd.int .u32) w A1 y.length y) (hc1 : y.length ≤ c1) (hx : x = digB 4294967296 a) (hy : y = digB 4294967296 b) (ha : a < (10 ^ 110) ^ 3) (hb : b < (10 ^ 110) ^ 3) :
    Calls Tryz.prog 76 #[.slice A0 x.length c0, .slice A1 y.length c1] w fun e w' => ∃ A c, ∃ q : List Int, e = .returned (.slice A q.length c) ∧ q = digB 4294967296 (a * b) ∧ q.length ≤ c ∧ Kd.C (Kd.int .u32) w' A q.length q ∧ Below w.heap.size w w' := by
  have h1 := big_ok ha
  have h2 := big_ok hb
  rw [← hx] at h1
  rw [← hy] at h2
  refine (nat_MulC.calls A0 c0 x A1 c1 y (digB 4294967296 (a * b)) w hr0 hc0 hr1 hc1 ?_).mono ?_
  · unfold nat_MulC.f
    rw [if_pos ⟨h1.2, h2.2, by omega⟩, hx, hy, digB_val 4294967296 (by decide), digB_val 4294967296 (by decide)]
  rintro e w' ⟨v, rfl, h, hb⟩
  obtain ⟨A, c, rfl, h1, h2⟩ := Kd.R_reads h
  exact ⟨A, c, _, rfl, rfl, h1, h2, hb⟩
theorem add2_calls (A0 : Option Addr) (c0 : Nat) (x : List Int) (A1 : Option Addr) (c1 : Nat) (y : List Int) (a b : Nat) (w : World) (hr0 : Kd.C (Kd.int .u32) w A0 x.length x) (hc0 : x.length ≤ c0) (hr1 : Kd.C (Kd.int .u32) w A1 y.length y) (hc1 : y.length ≤ c1) (hx : x = digB 4294967296 a) (hy : y = digB 4294967296 b) (ha : a < (10 ^ 110) ^ 3) (hb : b < (10 ^ 110) ^ 3) :
    Calls Tryz.prog 75 #[.slice A0 x.length c0, .slice A1 y.length c1] w fun e w' => ∃ A c, ∃ q : List Int, e = .returned (.slice A q.length c) ∧ q = digB 4294967296 (a + b) ∧ q.length ≤ c ∧ Kd.R (Kd.int .u32) 88 w' w.heap.size (fun _ => True) (.slice A q.length c) q ∧ Below w.heap.size w w' := by
  have h1 := big_ok ha
  have h2 := big_ok hb
  rw [← hx] at h1
  rw [← hy] at h2
  refine (nat_Add.calls A0 c0 x A1 c1 y (digB 4294967296 (a + b)) w hr0 hc0 hr1 hc1 ?_).mono ?_
  · unfold nat_Add.f
    rw [if_pos ⟨h1.2, h2.2⟩, hx, hy, digB_val 4294967296 (by decide), digB_val 4294967296 (by decide)]
  rintro e w' ⟨v, rfl, h, hb⟩
  obtain ⟨A, c, rfl, h1, h2⟩ := Kd.R_reads h
  exact ⟨A, c, _, rfl, rfl, h1, h, hb⟩
def digits_read.f (a0 : ByteArray) : Option (List Int × Int) := if natB a0.data.toList = true then (if 309 < a0.size then some ([], 14) else if numD a0.data.toList < 4294967296 ^ 32 then some (digB 4294967296 (numD a0.data.toList), 0) else some ([], 14)) else none
theorem size_toList2 (s : ByteArray) : s.data.toList.length = s.size := by cases s; rfl
theorem extract_list (s : ByteArray) (i j : Nat) : (s.extract i j).data.toList = (s.data.toList.drop i).take (j - i) := by
  rw [ByteArray.data_extract, Array.toList_extract, List.extract_eq_take_drop]
theorem lt_add9 {v : Nat} (h : v < (10 ^ 103) ^ 3) : v * 1000000000 < (10 ^ 110) ^ 3 :=
  Nat.lt_of_lt_of_le ((Nat.mul_lt_mul_right (by decide)).2 h) (Nat.le_of_ble_eq_true rfl)
theorem lt_310 {v : Nat} (h : v < (10 ^ 103) ^ 3) : v < (10 ^ 110) ^ 3 := Nat.lt_of_lt_of_le h (Nat.le_of_ble_eq_true rfl)
theorem lt_p9 {p : Nat} (h : p < 1000000000) : p < (10 ^ 110) ^ 3 := Nat.lt_of_lt_of_le h (Nat.le_of_ble_eq_true rfl)
theorem lt_e9 : 1000000000 < (10 ^ 110) ^ 3 := Nat.lt_of_lt_of_le (Nat.lt_succ_self _) (Nat.le_of_ble_eq_true rfl)
theorem pow_le10 {k a b : Nat} (h : k ≤ a * b) : 10 ^ k ≤ (10 ^ a) ^ b := by
  rw [← Nat.pow_mul]
  exact Nat.pow_le_pow_right (by decide) h
set_option maxRecDepth 100000 in
set_option maxHeartbeats 16000000 in
theorem read_calls (a0 : ByteArray) (hd : DigL a0.data.toList) (hs : a0.size ≤ 309) (r1 : List Int) (r2 : Int) (hr : (if numD a0.data.toList < 4294967296 ^ 32 then (digB 4294967296 (numD a0.data.toList), (0 : Int)) else ([], 14)) = (r1, r2)) (w : World) :
    Calls Tryz.prog 43 #[.string a0] w fun e w' => ∃ v0_ : Value, e = .returned (.tuple #[v0_, .int .i64 r2]) ∧ Kd.R (Kd.int .u32) 88 w' w.heap.size (fun _ => True) v0_ r1 ∧ Below w.heap.size w w' := by
  obtain ⟨T, hT⟩ : ∃ T, numD a0.data.toList = T := ⟨_, rfl⟩
  have hT9 : T < (10 ^ 103) ^ 3 := by
    rw [← hT]
    refine Nat.lt_of_lt_of_le (numD_lt _ hd) (pow_le10 ?_)
    rw [size_toList2]; exact hs
  rw [hT] at hr
  have HR := Aside0.mk hr
  have HD := Aside0.mk hd
  have HT := Aside0.mk hT
  have HT9 := Aside0.mk hT9
  have c0 : decide (309 < (a0.size : Int)) = false := decide_eq_false (by omega)
  clear hr hd hT hT9
  go_enter Tryz.func43, Tryz.ntmps43
  go_wp2
  go_loopg [0, 4] (a0.size + 1) (fun kq v0 v4 wr => ∃ (st : ByteArray) (A : Option Addr) (c : Nat) (xs : List Int) (v : Nat), v0 = .string st ∧ v4 = .slice A xs.length c ∧ Aside0 (st.size < kq ∧ st.size ≤ 309) ∧ Aside0 (DigL st.data.toList ∧ xs = digB 4294967296 v ∧ v * 10 ^ st.size + numD st.data.toList = T ∧ (v = 0 ∨ st.size % 9 = 0)) ∧ Aside0 (Kd.R (Kd.int .u32) 88 wr w.heap.size (fun _ => True) (.slice A xs.length c) xs) ∧ Aside0 (Below w.heap.size w wr))
  case atStart => exact ⟨a0, none, 0, [], 0, rfl, rfl, ⟨Nat.lt_succ_self _, hs⟩, ⟨HD.out, (digB_zero _ (by decide)).symm, by rw [HT.out]; simp, .inl rfl⟩, ⟨Kd.R_nil _ _ _ _ _⟩, ⟨Below.refl _ _⟩⟩
  case round =>
    obtain ⟨st, A, c, xs, v, rfl, rfl, HK, HF, HRR, HB⟩ := hrel
    by_cases h0 : 0 < st.size
    · have c1 : decide (0 < (st.size : Int)) = true := decide_eq_true (by omega)
      have hk := HK.out
      obtain ⟨n, hnn⟩ : ∃ n, (st.size - 1) % 9 + 1 = n := ⟨_, rfl⟩
      have hn : n ≤ st.size := by omega
      have hn9 : n ≤ 9 := by omega
      have hn1 : 1 ≤ n := by omega
      have hw : wrap64 ((wrap64 ((st.size : Int) - 1)).tmod 9 + 1) = (n : Int) := by
        rw [show wrap64 ((st.size : Int) - 1) = ((st.size - 1 : Nat) : Int) from by unfold wrap64; omega]
        rw [show ((st.size - 1 : Nat) : Int).tmod 9 = (((st.size - 1) % 9 : Nat) : Int) from rfl]
        unfold wrap64; omega
      have b1 : (0 : Int) ≤ (n : Int) := by omega
      have b2 : (n : Int) ≤ (st.size : Int) := by omega
      have hg : (st.extract 0 n).data.toList = st.data.toList.take n := by rw [extract_list, List.drop_zero, Nat.sub_zero]
      have hgr : (st.extract n st.size).data.toList = st.data.toList.drop n := by
        rw [extract_list]
        exact List.take_of_length_le (by rw [List.length_drop, size_toList2]; omega)
      have hgl : (st.extract 0 n).data.toList.length = n := by rw [hg, List.length_take, size_toList2]; omega
      have hgd : DigL (st.extract 0 n).data.toList := by rw [hg]; exact fun x hx => HF.out.1 x (List.mem_of_mem_take hx)
      have hrd : DigL (st.extract n st.size).data.toList := by rw [hgr]; exact fun x hx => HF.out.1 x (List.mem_of_mem_drop hx)
      have hrs : (st.extract n st.size).size = st.size - n := by rw [← size_toList2, hgr, List.length_drop, size_toList2]
      have PU := parse_calls (st.extract 0 n) (by rw [← size_toList2, hgl]; omega) (by intro e; rw [e] at hgl; simp at hgl; omega) hgd
      have hpl := numD_lt _ hgd
      rw [hgl] at hpl
      have htot : numD st.data.toList = numD (st.extract 0 n).data.toList * 10 ^ (st.size - n) + numD (st.extract n st.size).data.toList := by
        rw [hg, hgr]
        conv => lhs; rw [← List.take_append_drop n st.data.toList]
        rw [numD_append, List.length_drop, size_toList2]
      obtain ⟨p, hp⟩ : ∃ p, numD (st.extract 0 n).data.toList = p := ⟨_, rfl⟩
      rw [hp] at PU hpl htot
      have hp9 : p < 1000000000 := Nat.lt_of_lt_of_le hpl (Nat.pow_le_pow_right (by decide) hn9)
      have hv9 : v < (10 ^ 103) ^ 3 := by
        have h1 := HF.out.2.2.1
        have h2 := HT9.out
        have h3 : 1 ≤ 10 ^ st.size := Nat.pos_of_ne_zero (by simp)
        have h4 : v * 1 ≤ v * 10 ^ st.size := Nat.mul_le_mul_left _ h3
        exact Nat.lt_of_le_of_lt (show v ≤ T by rw [← h1]; omega) h2
      have OF1 : ∀ W, Calls Tryz.prog 34 #[.int .u64 1000000000] W fun e w' => ∃ A c, ∃ q : List Int, e = .returned (.slice A q.length c) ∧ q = digB 4294967296 1000000000 ∧ q.length ≤ c ∧ Kd.C (Kd.int .u32) w' A q.length q ∧ Below W.heap.size W w' := fun W => of2_calls 1000000000 (by decide) W
      have OF2 := fun W => of2_calls p (by omega) W
      have HP9 := Aside0.mk hp9
      have HV9 := Aside0.mk hv9
      have HTOT := Aside0.mk htot
      have HN := Aside0.mk (And.intro hnn (And.intro hn (And.intro hn9 hn1)))
      have HREST := Aside0.mk (And.intro hrd hrs)
      have HH0 := Aside0.mk h0
      have HC := Aside0.mk (Kd.rR9 HRR.out)
      clear hnn hn hn9 hn1 hg hgr hgl hgd hpl htot hp hp9 hv9 hk hrd hrs
      go_wp2_with (first | (go_at_call 39; refine (PU _).mono ?_; rintro e w1 ⟨rfl, hb1⟩; have B1 := Aside0.mk hb1; clear hb1) | (go_at_call 34; (with_reducible refine (OF1 _).mono ?_); rintro e w2 ⟨A2, c2, q2, rfl, hq2, hc2, hr2, hb2⟩; have Q2 := Aside0.mk (And.intro hq2 (And.intro hc2 hr2)); have B2 := Aside0.mk (B1.out.trans (hb2.mono B1.out.size)); clear hq2 hc2 hr2 hb2) | (go_at_call 76; refine (mul2_calls A c xs A2 c2 q2 v 1000000000 w2 (Kd.cB9 HC.out.2.2 B2.out) HC.out.2.1 Q2.out.2.2 Q2.out.2.1 HF.out.2.1 Q2.out.1 (by have := HV9.out; exact lt_310 this) lt_e9).mono ?_; rintro e w3 ⟨A3, c3, q3, rfl, hq3, hc3, hr3, hb3⟩; have Q3 := Aside0.mk (And.intro hq3 (And.intro hc3 hr3)); have B3 := Aside0.mk (B2.out.trans (hb3.mono B2.out.size)); clear hq3 hc3 hr3 hb3) | (go_at_call 34; (with_reducible refine (OF2 _).mono ?_); rintro e w4 ⟨A4, c4, q4, rfl, hq4, hc4, hr4, hb4⟩; have Q4 := Aside0.mk (And.intro hq4 (And.intro hc4 hr4)); have B4 := Aside0.mk (B3.out.trans (hb4.mono B3.out.size)); have B34 := Aside0.mk hb4; clear hq4 hc4 hr4 hb4) | (go_at_call 75; refine (add2_calls A3 c3 q3 A4 c4 q4 (v * 1000000000) p w4 (Kd.cB9 Q3.out.2.2 B34.out) Q3.out.2.1 Q4.out.2.2 Q4.out.2.1 Q3.out.1 Q4.out.1 (by have := HV9.out; exact lt_add9 this) (by have := HP9.out; exact lt_p9 this)).mono ?_; rintro e w5 ⟨A5, c5, q5, rfl, hq5, hc5, hr5, hb5⟩; have Q5 := Aside0.mk (And.intro hq5 (And.intro hc5 hr5)); have B5 := Aside0.mk (B4.out.trans (hb5.mono B4.out.size)); clear hq5 hc5 hr5 hb5) | (go_at_call 34; apply Classical.byContradiction; intro DBG) | (go_at_call 76; apply Classical.byContradiction; intro DBG) | (go_at_call 75; apply Classical.byContradiction; intro DBG) | (go_at_call 39; apply Classical.byContradiction; intro DBG))
      have hsd : wr.heap.size ≤ w4.heap.size := B4.out.size
      cases gk with
      | zero => exact absurd HK.out.1 (Nat.not_lt_zero _)
      | succ k1 =>
        go_roundg k1
        case measure => omega
        case rel =>
          have h1 := HN.out
          have h2 := HREST.out
          have h3 := HK.out
          refine ⟨_, A5, c5, q5, v * 1000000000 + p, rfl, rfl, ⟨by omega, by omega⟩, ⟨h2.1, Q5.out.1, ?_, .inr (by omega)⟩, ⟨Kd.rL9 Q5.out.2.2 (Nat.le_trans HB.out.size hsd)⟩, ⟨HB.out.trans (B5.out.mono HB.out.size)⟩⟩
          have h4 := HF.out.2.2.1
          have h5 := HTOT.out
          rw [h2.2]
          rw [h5] at h4
          rw [← h4, Nat.add_mul, ← Nat.add_assoc]
          congr 2
          rcases HF.out.2.2.2 with e | e
          · rw [e]; simp
          · have hn9 : n = 9 := by omega
            rw [hn9, Nat.mul_assoc]
            congr 1
            rw [show (1000000000 : Nat) = 10 ^ 9 from rfl, ← Nat.pow_add]
            congr 1
            omega
    · have c1 : decide (0 < (st.size : Int)) = false := decide_eq_false (by omega)
      have hz : st.size = 0 := by omega
      have hvT : v = T := by
        have h := HF.out.2.2.1
        have e : st.data.toList = [] := List.eq_nil_of_length_eq_zero (by rw [size_toList2]; exact hz)
        rw [hz, e] at h
        simpa [numD] using h
      have hxs := HF.out.2.1
      rw [hvT] at hxs
      have HX := Aside0.mk hxs
      clear hxs hvT
      by_cases hbig : T < 4294967296 ^ 32
      · have hl : xs.length ≤ 32 := by rw [HX.out]; exact digB_len (by decide) hbig
        have c2 : decide (32 < (xs.length : Int)) = false := decide_eq_false (by omega)
        have hr := HR.out
        rw [if_pos hbig] at hr
        obtain ⟨rfl, rfl⟩ := Prod.mk.inj hr
        clear hr
        go_wp2
        go_ret2
        exact ⟨_, rfl, by rw [← HX.out]; exact HRR.out, HB.out⟩
      · have hl : 32 < xs.length := by rw [HX.out]; exact digB_len_ge (by decide) (Nat.le_of_not_lt hbig)
        have c2 : decide (32 < (xs.length : Int)) = true := decide_eq_true (by omega)
        have hr := HR.out
        rw [if_neg hbig] at hr
        obtain ⟨rfl, rfl⟩ := Prod.mk.inj hr
        clear hr
        go_wp2
        go_ret2
        exact ⟨_, rfl, Kd.R_nil _ _ _ _ _, HB.out⟩
set_option maxRecDepth 100000 in
set_option maxHeartbeats 4000000 in
theorem digits_read.calls (a0 : ByteArray) (r1 : List Int) (r2 : Int) (w : World) (h : digits_read.f a0 = some (r1, r2)) :
    Calls Tryz.prog 43 #[.string a0] w fun e w' => ∃ v0_ : Value, e = .returned (.tuple #[v0_, .int .i64 r2]) ∧ Kd.R (Kd.int .u32) 88 w' w.heap.size (fun _ => True) v0_ r1 ∧ Below w.heap.size w w' := by
  unfold digits_read.f at h
  by_cases hn : natB a0.data.toList = true
  · rw [if_pos hn] at h
    by_cases hs : 309 < a0.size
    · rw [if_pos hs] at h
      obtain ⟨rfl, rfl⟩ := Prod.mk.inj (Option.some.inj h)
      have c0 : decide (309 < (a0.size : Int)) = true := decide_eq_true (by omega)
      clear h hn
      go_enter Tryz.func43, Tryz.ntmps43
      go_wp2
      go_ret2
      exact ⟨_, rfl, Kd.R_nil _ _ _ _ _, Below.refl _ _⟩
    · rw [if_neg hs] at h
      refine read_calls a0 (natB_iff.1 hn).2.1 (by omega) r1 r2 ?_ w
      by_cases hb : numD a0.data.toList < 4294967296 ^ 32
      · rw [if_pos hb] at h ⊢
        exact Option.some.inj h
      · rw [if_neg hb] at h ⊢
        exact Option.some.inj h
  · rw [if_neg hn] at h; cases h
end Go.Proofs.YtibaoacjjcgjlaaGreatDoor.Print

namespace Go.Proofs
open Go.RowKit Go.Shelf
shelf_lay Lays.n219 Nm 219 at Tryz as Tryz.layIndexLite
shelf_lay Lays.n103 Nm 103 at Tryz as Tryz.layCutPrefix
end Go.Proofs
namespace Go.Proofs.YtibaoacjjcgjlaaGreatDoor.Print
open Go.RowKit Go.Shelf Go.Proofs.YtibaoacjjcgjlaaGreatDoorW.PrintWords Go.Proofs.YtibaoacjjcgjlaaGreatDoorW.PrintLast
set_option linter.unusedVariables false
set_option linter.unusedSimpArgs false
theorem indexByte_lt (l : List UInt8) (c : UInt8) : Lib.indexByte l c < (l.length : Int) := by
  induction l with
  | nil => show (-1 : Int) < 0; decide
  | cons b l ih =>
    unfold Lib.indexByte
    split
    · simp only [List.length_cons]; omega
    · split
      · simp only [List.length_cons]; omega
      · simp only [List.length_cons]; omega
def slAt (s : ByteArray) : Int := Lib.indexByte s.data.toList 47
theorem slAt_lt (s : ByteArray) : slAt s < (s.size : Int) := by
  have := indexByte_lt s.data.toList 47
  have e : s.data.toList.length = s.size := by cases s; rfl
  rw [e] at this; exact this
def cutSL (s : ByteArray) : ByteArray × ByteArray × Bool := if 0 ≤ slAt s then (s.extract 0 (slAt s).toNat, s.extract ((slAt s).toNat + 1) s.size, true) else (s, ⟨#[]⟩, false)
set_option maxRecDepth 100000 in
set_option maxHeartbeats 2000000 in
theorem cutlite_calls (s : ByteArray) (hs : s.size ≤ 140737488351232) (w : World) :
    Calls Tryz.prog 72 #[.string s, .string ⟨#[47]⟩] w fun e w' => e = .returned (.tuple #[.string (cutSL s).1, .string (cutSL s).2.1, .bool (cutSL s).2.2]) ∧ Drawn0 w w' := by
  by_cases h : 0 ≤ slAt s
  · obtain ⟨i, hi⟩ : ∃ i : Nat, slAt s = (i : Int) := ⟨(slAt s).toNat, by omega⟩
    have hlt := slAt_lt s
    rw [show cutSL s = (s.extract 0 (slAt s).toNat, s.extract ((slAt s).toNat + 1) s.size, true) from if_pos h, hi]
    have c1 : (0 : Int) ≤ ↑i := by omega
    have c2 : (↑i : Int) ≤ ↑s.size := by omega
    have c3 : (0 : Int) ≤ ↑i + 1 := by omega
    have c4 : (↑i + 1 : Int) ≤ ↑s.size := by omega
    have c5 : IntKind.i64.wrap ((i : Int) + 1) = (i : Int) + 1 := by rw [i64_w]; unfold wrap64; omega
    have mixed : Tryz.prog.follows .mixedOrders = true := by kernel_rfl
    have hI := fun w => Any.stringslite_Index_one Tryz.layIndexLite s 47 w
    rw [show Lib.indexByte s.data.toList 47 = (i : Int) from hi] at hI
    go_enter Tryz.func72, Tryz.ntmps72
    go_wp2_with (go_at_call 105; refine (hI _).mono ?_; rintro e w' ⟨rfl, rfl⟩)
    go_region_o
    go_wp2
    go_ret3
    exact ⟨rfl, 1, rfl⟩
  · rw [show cutSL s = (s, ⟨#[]⟩, false) from if_neg h]
    have hd : decide (0 ≤ slAt s) = false := decide_eq_false h
    have hI := fun w => Any.stringslite_Index_one Tryz.layIndexLite s 47 w
    rw [show Lib.indexByte s.data.toList 47 = slAt s from rfl] at hI
    generalize slAt s = i at hd hI
    go_enter Tryz.func72, Tryz.ntmps72
    go_wp2_with (go_at_call 105; refine (hI _).mono ?_; rintro e w' ⟨rfl, rfl⟩)
    go_ret3
    exact ⟨rfl, 0, rfl⟩
def strings_Cut.f (a0 a1 : ByteArray) : Option (ByteArray × ByteArray × Bool) := if a1 = ⟨#[47]⟩ ∧ a0.size ≤ 140737488351232 then some (cutSL a0) else none
set_option maxRecDepth 100000 in
theorem strings_Cut.calls (a0 a1 : ByteArray) (r1 r2 : ByteArray) (r3 : Bool) (w : World) (h : strings_Cut.f a0 a1 = some (r1, r2, r3)) :
    Calls Tryz.prog 41 #[.string a0, .string a1] w fun e w' => e = .returned (.tuple #[.string r1, .string r2, .bool r3]) ∧ Drawn0 w w' := by
  unfold strings_Cut.f at h
  by_cases ha : a1 = ⟨#[47]⟩ ∧ a0.size ≤ 140737488351232
  · rw [if_pos ha] at h
    obtain ⟨rfl, hs⟩ := ha
    have h := Option.some.inj h
    have hC := cutlite_calls a0 hs
    rw [h] at hC
    go_enter Tryz.func41, Tryz.ntmps41
    go_wp2_with (go_at_call 72; refine (hC _).mono ?_; rintro e w' ⟨rfl, ⟨n, rfl⟩⟩)
    go_ret3
    exact ⟨rfl, n, rfl⟩
  · rw [if_neg ha] at h; cases h
def strings_CutPrefix.f (a0 a1 : ByteArray) : Option (ByteArray × Bool) := some (⟨(Lib.trimPrefix a0.data.toList a1.data.toList).toArray⟩, Lib.hasPrefix a0.data.toList a1.data.toList)
theorem strings_CutPrefix.calls (a0 a1 : ByteArray) (r1 : ByteArray) (r2 : Bool) (w : World) (h : strings_CutPrefix.f a0 a1 = some (r1, r2)) :
    Calls Tryz.prog 18 #[.string a0, .string a1] w fun e w' => e = .returned (.tuple #[.string r1, .bool r2]) ∧ Drawn0 w w' := by
  unfold strings_CutPrefix.f at h
  have h := Option.some.inj h
  obtain ⟨rfl, rfl⟩ := Prod.mk.inj h
  exact (Any.strings_CutPrefix Tryz.layCutPrefix a0 a1 w).mono fun e w' ⟨he, hw⟩ => ⟨he, 0, by rw [hw]; rfl⟩
end Go.Proofs.YtibaoacjjcgjlaaGreatDoor.Print

namespace Go.Proofs.YtibaoacjjcgjlaaGreatDoor.Print
open Go.RowKit Go.Proofs.YtibaoacjjcgjlaaGreatDoorW.PrintWords Go.Proofs.YtibaoacjjcgjlaaGreatDoorW.PrintLast Go.Proofs.YtibaoacjjcgjlaaGreatDoorW.PrintMore
attribute [local go_sem] max2_int min2_int max_two min_two max_three min_three max_four min_four   -- for this text's walks alone
set_option linter.unusedVariables false
set_option linter.unusedSimpArgs false
def digits_ParseRat.j0 : Nat → Bool → ByteArray → ByteArray → Bool → Bool → Option (Bool × List Int × List Int × Int)
 | 0, _, _, _, _, _ => none
 | k + 1, x5, x6, x7, x8, x32 => if x32 = true then (some (false, ([] : List Int), ([] : List Int), 19)) else ((nat_Of.f 1).bind fun t123 => ((digits_read.f x6).bind fun bt127 => (if bt127.2 = 0 then (if x8 = true then ((digits_read.f x7).bind fun bt131 => (if bt131.2 = 0 then ((rat_May.f x5 bt127.1 bt131.1).bind fun t135 => (if t135 = 0 then (if x7.toList = ([49] : List UInt8) then (some (false, ([] : List Int), ([] : List Int), 6)) else (some (x5, bt127.1, bt131.1, 0))) else (some (false, ([] : List Int), ([] : List Int), 6)))) else (some (false, ([] : List Int), ([] : List Int), bt131.2)))) else ((rat_May.f x5 bt127.1 t123).bind fun t136 => (if t136 = 0 then (some (x5, bt127.1, t123, 0)) else (some (false, ([] : List Int), ([] : List Int), 6))))) else (some (false, ([] : List Int), ([] : List Int), bt127.2)))))
def digits_ParseRat.f (k : Nat) (a0 : ByteArray) : Option (Bool × List Int × List Int × Int) := (strings_CutPrefix.f a0 (⟨#[45]⟩ : ByteArray)).bind fun bt116 => ((strings_Cut.f bt116.1 (⟨#[47]⟩ : ByteArray)).bind fun bt118 => ((digits_natural.f bt118.1).bind fun t121 => (if t121 = true then (if bt118.2.2 = true then ((digits_natural.f bt118.2.1).bind fun t122 => (digits_ParseRat.j0 k bt116.2 bt118.1 bt118.2.1 bt118.2.2 (!t122))) else (digits_ParseRat.j0 k bt116.2 bt118.1 bt118.2.1 bt118.2.2 false)) else (digits_ParseRat.j0 k bt116.2 bt118.1 bt118.2.1 bt118.2.2 true))))
set_option maxHeartbeats 8000000 in
set_option maxRecDepth 100000 in
theorem digits_ParseRat.calls (k : Nat) (a0 : ByteArray) (r1 : Bool) (r2 : List Int) (r3 : List Int) (r4 : Int) (w : World) (h : digits_ParseRat.f k a0 = some (r1, r2, r3, r4)) :
  Calls Tryz.prog 23 #[.string a0] w fun e w' => ∃ v1_ v2_ : Value, e = .returned (.tuple #[.agg #[.bool r1, v1_, v2_], .int .i64 r4]) ∧ Kd.R (Kd.int .u32) 88 w' w.heap.size (fun k_ => some k_ ≠ (v2_ : Value).ownBlock) v1_ r2 ∧ Kd.R (Kd.int .u32) 88 w' w.heap.size (fun k_ => some k_ ≠ (v1_ : Value).ownBlock) v2_ r3 ∧ Below w.heap.size w w' := by
 have hu31 := Tryz.underlying31
 have HB := Aside0.mk (Below.refl w.heap.size w)
 have H : ((strings_CutPrefix.f a0 (⟨#[45]⟩ : ByteArray)).bind fun bt116 => ((strings_Cut.f bt116.1 (⟨#[47]⟩ : ByteArray)).bind fun bt118 => ((digits_natural.f bt118.1).bind fun t121 => (if t121 = true then (if bt118.2.2 = true then ((digits_natural.f bt118.2.1).bind fun t122 => (digits_ParseRat.j0 k bt116.2 bt118.1 bt118.2.1 bt118.2.2 (!t122))) else (digits_ParseRat.j0 k bt116.2 bt118.1 bt118.2.1 bt118.2.2 false)) else (digits_ParseRat.j0 k bt116.2 bt118.1 bt118.2.1 bt118.2.2 true))))) = some (r1, r2, r3, r4) := h
 clear h
 replace H := Option.bind_eq_some_iff.mp H
 obtain ⟨⟨t116, t117⟩, A20, H⟩ := H
 (try dsimp only at H)
 have A2 := Aside0.mk A20
 clear A20
 replace H := Option.bind_eq_some_iff.mp H
 obtain ⟨⟨t118, t119, t120⟩, A30, H⟩ := H
 (try dsimp only at H)
 have A3 := Aside0.mk A30
 clear A30
 have HC4 := Aside0.mk H
 clear H
 go_enter Tryz.func23, Tryz.ntmps23
 go_upto_region 3 with (first | ((with_reducible refine gD9 (N := 2) rfl ?_); refine bE9 ?hg (N := 2) ?hd (cs := #[.bool false, .slice none 0 0, .slice none 0 0]) (t := 31) ?hr ?_; (case hd => rfl); (case hg => rfl); (case hr => first | (go_simp; done) | (go_simp; rfl)); intro gb115 hg w5 hbox hb; have n0_ := Aside0.mk (bT9 (by repeat (first | (with_reducible first | exact HB.out | apply bA9 | apply bN9 | apply bD9) | exact HB.out)) hb); have n1_ := Aside0.mk (hbox); have n2_ := Aside0.mk ((by rw [hg]; exact (bZ9 (by repeat (first | (with_reducible first | exact HB.out | apply bA9 | apply bN9 | apply bD9) | exact HB.out))) : w.heap.size ≤ gb115)); have n3_ := Aside0.mk ((by rw [hg]; exact (bZ9 (by repeat (first | (with_reducible first | exact HB.out | apply bA9 | apply bN9 | apply bD9) | exact HB.out))) : w.heap.size ≤ gb115)); clear HB; have HB := n0_; have BK115 := n1_; have GW115 := n2_; have GE115 := n3_; clear n0_ n1_ n2_ n3_; clear hb hbox hg) | ((with_reducible refine gC9 (f := 18) rfl ?_); refine goesL_ (some 13) rfl rfl Tryz.func18 (by kernel_rfl) rfl #[.string a0, .string (⟨#[45]⟩ : ByteArray)] rfl (by (try simp only [List.map_toArray, List.map_cons, List.map_nil]); first | done | rfl | (simp only [List.length_drop, List.length_take]; rfl)) ?_; (with_reducible refine (strings_CutPrefix.calls a0 (⟨#[45]⟩ : ByteArray) t116 t117 _ A2.out).mono ?_); rintro e w' ⟨rfl, ⟨nd, rfl⟩⟩; refine ⟨_, rfl, ?_⟩) | ((with_reducible refine gC9 (f := 41) rfl ?_); refine goesL_ (some 18) rfl rfl Tryz.func41 (by kernel_rfl) rfl #[.string t116, .string (⟨#[47]⟩ : ByteArray)] rfl (by (try simp only [List.map_toArray, List.map_cons, List.map_nil]); first | done | rfl | (simp only [List.length_drop, List.length_take]; rfl)) ?_; (with_reducible refine (strings_Cut.calls t116 (⟨#[47]⟩ : ByteArray) t118 t119 t120 _ A3.out).mono ?_); rintro e w' ⟨rfl, ⟨nd, rfl⟩⟩; refine ⟨_, rfl, ?_⟩))
 (try simp only [Act.put, List.setIfInBounds_toArray, List.set_cons_zero, List.set_cons_succ])
 go_cut [32] (fun v32 wc => ∃ (kq : Nat) (x32_3 : Bool), v32 = .bool x32_3 ∧ Aside0 (digits_ParseRat.j0 kq t117 t118 t119 t120 x32_3 = some (r1, r2, r3, r4)) ∧ Aside0 (kq ≤ k) ∧ Aside0 (wc.heap[gb115]? = some (.cells #[.bool false, (.slice none 0 0), (.slice none 0 0)] 31 (0, 0))) ∧ Aside0 (Below w.heap.size w wc))
 case first =>
  have H := HC4.out
  clear HC4
  replace H := Option.bind_eq_some_iff.mp H
  obtain ⟨t121, A60, H⟩ := H
  (try dsimp only at H)
  have A6 := Aside0.mk A60
  clear A60
  by_cases c7 : t121 = true
  ·subst c7
   have H1 : (if t120 = true then ((digits_natural.f t119).bind fun t122 => (digits_ParseRat.j0 k t117 t118 t119 t120 (!t122))) else (digits_ParseRat.j0 k t117 t118 t119 t120 false)) = some (r1, r2, r3, r4) := by rw [if_pos rfl] at H; exact H
   clear H
   have H := H1
   clear H1
   by_cases c8 : t120 = true
   ·subst c8
    have H1 : ((digits_natural.f t119).bind fun t122 => (digits_ParseRat.j0 k t117 t118 t119 true (!t122))) = some (r1, r2, r3, r4) := by rw [if_pos rfl] at H; exact H
    clear H
    have H := H1
    clear H1
    replace H := Option.bind_eq_some_iff.mp H
    obtain ⟨t122, A90, H⟩ := H
    (try dsimp only at H)
    have A9 := Aside0.mk A90
    clear A90
    have H' := Aside0.mk H
    clear H
    go_wp2_with (first | ((with_reducible refine gC9 (f := 42) rfl ?_); refine goesL_ (some 23) rfl rfl Tryz.func42 (by kernel_rfl) rfl #[.string t118] rfl (by (try simp only [List.map_toArray, List.map_cons, List.map_nil]); first | done | rfl | (simp only [List.length_drop, List.length_take]; rfl)) ?_; (with_reducible refine (digits_natural.calls t118 true _ A6.out).mono ?_); rintro e w10 ⟨rfl, hb⟩; refine ⟨_, rfl, ?_⟩; have n0_ := Aside0.mk (kB9 (g := gb115) (o := .cells #[.bool false, .slice none 0 0, .slice none 0 0] 31 (0, 0)) (by (with_reducible repeat (first | refine kN9 ?_ _ | refine kD9 ?_ | refine kA9 ?_ _)); exact BK115.out) hb); have n1_ := Aside0.mk (bT9 (by repeat (first | (with_reducible first | exact HB.out | apply bA9 | apply bN9 | apply bD9 | refine bS9 ?_ GE115.out) | exact HB.out)) hb); clear BK115; clear HB; have BK115 := n0_; have HB := n1_; clear n0_ n1_; (try clear hb); (try clear hb2); (try clear hk); (try clear hi)) | (go_at_call 42; (with_reducible refine (digits_natural.calls t119 t122 _ A9.out).mono ?_); rintro e w11 ⟨rfl, hb⟩; have n0_ := Aside0.mk (kB9 (g := gb115) (o := .cells #[.bool false, .slice none 0 0, .slice none 0 0] 31 (0, 0)) (by (with_reducible repeat (first | refine kN9 ?_ _ | refine kD9 ?_ | refine kA9 ?_ _)); exact BK115.out) hb); have n1_ := Aside0.mk (bT9 (by repeat (first | (with_reducible first | exact HB.out | apply bA9 | apply bN9 | apply bD9 | refine bS9 ?_ GE115.out) | exact HB.out)) hb); clear BK115; clear HB; have BK115 := n0_; have HB := n1_; clear n0_ n1_; (try clear hb); (try clear hb2); (try clear hk); (try clear hi)))
    go_meet
    case rel => exact ⟨_, (!t122), (by first | rfl | (simp; done) | (simp [*]; done)), H', ⟨by first | omega | exact Nat.le_refl _⟩, ⟨by (with_reducible repeat (first | refine kN9 ?_ _ | refine kD9 ?_ | refine kA9 ?_ _)); exact BK115.out⟩, ⟨by repeat (first | (with_reducible first | exact HB.out | apply bA9 | apply bN9 | apply bD9 | refine bS9 ?_ GE115.out) | exact HB.out)⟩⟩
   ·replace c8 := Bool.eq_false_iff.mpr c8
    subst c8
    have H1 : (digits_ParseRat.j0 k t117 t118 t119 false false) = some (r1, r2, r3, r4) := by rw [if_neg (show ¬ (false = true) by decide)] at H; exact H
    clear H
    have H := H1
    clear H1
    have H' := Aside0.mk H
    clear H
    go_wp2_with (first | ((with_reducible refine gC9 (f := 42) rfl ?_); refine goesL_ (some 23) rfl rfl Tryz.func42 (by kernel_rfl) rfl #[.string t118] rfl (by (try simp only [List.map_toArray, List.map_cons, List.map_nil]); first | done | rfl | (simp only [List.length_drop, List.length_take]; rfl)) ?_; (with_reducible refine (digits_natural.calls t118 true _ A6.out).mono ?_); rintro e w12 ⟨rfl, hb⟩; refine ⟨_, rfl, ?_⟩; have n0_ := Aside0.mk (kB9 (g := gb115) (o := .cells #[.bool false, .slice none 0 0, .slice none 0 0] 31 (0, 0)) (by (with_reducible repeat (first | refine kN9 ?_ _ | refine kD9 ?_ | refine kA9 ?_ _)); exact BK115.out) hb); have n1_ := Aside0.mk (bT9 (by repeat (first | (with_reducible first | exact HB.out | apply bA9 | apply bN9 | apply bD9 | refine bS9 ?_ GE115.out) | exact HB.out)) hb); clear BK115; clear HB; have BK115 := n0_; have HB := n1_; clear n0_ n1_; (try clear hb); (try clear hb2); (try clear hk); (try clear hi)))
    go_meet
    case rel => exact ⟨_, (false), (by first | rfl | (simp; done) | (simp [*]; done)), H', ⟨by first | omega | exact Nat.le_refl _⟩, ⟨by (with_reducible repeat (first | refine kN9 ?_ _ | refine kD9 ?_ | refine kA9 ?_ _)); exact BK115.out⟩, ⟨by repeat (first | (with_reducible first | exact HB.out | apply bA9 | apply bN9 | apply bD9 | refine bS9 ?_ GE115.out) | exact HB.out)⟩⟩
  ·replace c7 := Bool.eq_false_iff.mpr c7
   subst c7
   have H1 : (digits_ParseRat.j0 k t117 t118 t119 t120 true) = some (r1, r2, r3, r4) := by rw [if_neg (show ¬ (false = true) by decide)] at H; exact H
   clear H
   have H := H1
   clear H1
   have H' := Aside0.mk H
   clear H
   go_wp2_with (first | ((with_reducible refine gC9 (f := 42) rfl ?_); refine goesL_ (some 23) rfl rfl Tryz.func42 (by kernel_rfl) rfl #[.string t118] rfl (by (try simp only [List.map_toArray, List.map_cons, List.map_nil]); first | done | rfl | (simp only [List.length_drop, List.length_take]; rfl)) ?_; (with_reducible refine (digits_natural.calls t118 false _ A6.out).mono ?_); rintro e w13 ⟨rfl, hb⟩; refine ⟨_, rfl, ?_⟩; have n0_ := Aside0.mk (kB9 (g := gb115) (o := .cells #[.bool false, .slice none 0 0, .slice none 0 0] 31 (0, 0)) (by (with_reducible repeat (first | refine kN9 ?_ _ | refine kD9 ?_ | refine kA9 ?_ _)); exact BK115.out) hb); have n1_ := Aside0.mk (bT9 (by repeat (first | (with_reducible first | exact HB.out | apply bA9 | apply bN9 | apply bD9 | refine bS9 ?_ GE115.out) | exact HB.out)) hb); clear BK115; clear HB; have BK115 := n0_; have HB := n1_; clear n0_ n1_; (try clear hb); (try clear hb2); (try clear hk); (try clear hi)))
   go_meet
   case rel => exact ⟨_, (true), (by first | rfl | (simp; done) | (simp [*]; done)), H', ⟨by first | omega | exact Nat.le_refl _⟩, ⟨by (with_reducible repeat (first | refine kN9 ?_ _ | refine kD9 ?_ | refine kA9 ?_ _)); exact BK115.out⟩, ⟨by repeat (first | (with_reducible first | exact HB.out | apply bA9 | apply bN9 | apply bD9 | refine bS9 ?_ GE115.out) | exact HB.out)⟩⟩
 case rest =>
  clear HC4
  try clear c1
  try clear c2
  try clear p2
  try clear c4
  try clear c7
  try clear c8
  obtain ⟨kq, x32_3, rfl, HA, HJ3, BK115, HB⟩ := hcut
  cases kq with
  | zero => exact absurd HA.out (by simp [digits_ParseRat.j0])
  | succ kj3 =>
   have H := HA.out
   clear HA
   simp only [digits_ParseRat.j0] at H
   by_cases c14 : x32_3 = true
   ·subst c14
    have H1 : (some (false, ([] : List Int), ([] : List Int), 19)) = some (r1, r2, r3, r4) := by rw [if_pos rfl] at H; exact H
    clear H
    have H := H1
    clear H1
    simp only [Option.some.injEq, Prod.mk.injEq] at H
    obtain ⟨rfl, rfl, rfl, rfl⟩ := H
    have hcz15_0 : wc.cell? ⟨gb115, 0, none⟩ = some (.bool false) := (kC9 BK115.out 0).trans rfl
    have hcz15_1 : wc.cell? ⟨gb115, 1, none⟩ = some (.slice none 0 0) := (kC9 BK115.out 1).trans rfl
    have hcz15_2 : wc.cell? ⟨gb115, 2, none⟩ = some (.slice none 0 0) := (kC9 BK115.out 2).trans rfl
    have hfz15_0 := kF9 BK115.out 0
    have hfz15_1 := kF9 BK115.out 1
    have hfz15_2 := kF9 BK115.out 2
    go_wp2
    refine bodyPost_ret (results_ct rfl _ _ gb115 31 #[.bool false, .slice none 0 0, .slice none 0 0] (0, 0) _ rfl (by (with_reducible repeat (first | refine kN9 ?_ _ | refine kD9 ?_ | refine kA9 ?_ _)); refine kP9 (cs := #[.bool false, .slice none 0 0, .slice none 0 0]) ?_ 2 _ rfl; (with_reducible repeat (first | refine kN9 ?_ _ | refine kD9 ?_ | refine kA9 ?_ _)); refine kP9 (cs := #[.bool false, .slice none 0 0, .slice none 0 0]) ?_ 1 _ rfl; (with_reducible repeat (first | refine kN9 ?_ _ | refine kD9 ?_ | refine kA9 ?_ _)); refine kP9 (cs := #[.bool false, .slice none 0 0, .slice none 0 0]) ?_ 0 _ rfl; (with_reducible repeat (first | refine kN9 ?_ _ | refine kD9 ?_ | refine kA9 ?_ _)); exact BK115.out) Tryz.underlying31 rfl (by kernel_rfl)) rfl ?_
    exact ⟨_, _, by first | rfl | (simp [eN9, eS9] <;> rfl) | (simp [*, eN9, eS9] <;> rfl), by first | exact Kd.R_nil _ _ _ _ _ | exact Kd.N_nil _ _ _ _ _ | exact Kd.V_nil _ _ _ _ _ | exact Kd.Q_nil _ _ _ _ _ | exact Kd.S_nil _ _ _ _ _, by first | exact Kd.R_nil _ _ _ _ _ | exact Kd.N_nil _ _ _ _ _ | exact Kd.V_nil _ _ _ _ _ | exact Kd.Q_nil _ _ _ _ _ | exact Kd.S_nil _ _ _ _ _, by repeat (first | (with_reducible first | exact HB.out | apply bA9 | apply bN9 | apply bD9 | refine bS9 ?_ GE115.out) | exact HB.out)⟩
   ·replace c14 := Bool.eq_false_iff.mpr c14
    subst c14
    have H1 : ((nat_Of.f 1).bind fun t123 => ((digits_read.f t118).bind fun bt127 => (if bt127.2 = 0 then (if t120 = true then ((digits_read.f t119).bind fun bt131 => (if bt131.2 = 0 then ((rat_May.f t117 bt127.1 bt131.1).bind fun t135 => (if t135 = 0 then (if t119.toList = ([49] : List UInt8) then (some (false, ([] : List Int), ([] : List Int), 6)) else (some (t117, bt127.1, bt131.1, 0))) else (some (false, ([] : List Int), ([] : List Int), 6)))) else (some (false, ([] : List Int), ([] : List Int), bt131.2)))) else ((rat_May.f t117 bt127.1 t123).bind fun t136 => (if t136 = 0 then (some (t117, bt127.1, t123, 0)) else (some (false, ([] : List Int), ([] : List Int), 6))))) else (some (false, ([] : List Int), ([] : List Int), bt127.2))))) = some (r1, r2, r3, r4) := by rw [if_neg (show ¬ (false = true) by decide)] at H; exact H
    clear H
    have H := H1
    clear H1
    replace H := Option.bind_eq_some_iff.mp H
    obtain ⟨t123, A160, H⟩ := H
    (try dsimp only at H)
    have A16 := Aside0.mk A160
    clear A160
    replace H := Option.bind_eq_some_iff.mp H
    obtain ⟨⟨t127, t128⟩, A170, H⟩ := H
    (try dsimp only at H)
    have A17 := Aside0.mk A170
    clear A170
    by_cases c18 : t128 = 0
    ·rw [if_pos c18] at H
     have c18b0 : (t128 == 0) = true := beq_iff_eq.mpr c18
     have c18b1 : (t128 != 0) = false := bne_eq_false_iff_eq.mpr c18
     clear c18
     by_cases c19 : t120 = true
     ·subst c19
      have H1 : ((digits_read.f t119).bind fun bt131 => (if bt131.2 = 0 then ((rat_May.f t117 t127 bt131.1).bind fun t135 => (if t135 = 0 then (if t119.toList = ([49] : List UInt8) then (some (false, ([] : List Int), ([] : List Int), 6)) else (some (t117, t127, bt131.1, 0))) else (some (false, ([] : List Int), ([] : List Int), 6)))) else (some (false, ([] : List Int), ([] : List Int), bt131.2)))) = some (r1, r2, r3, r4) := by rw [if_pos rfl] at H; exact H
      clear H
      have H := H1
      clear H1
      replace H := Option.bind_eq_some_iff.mp H
      obtain ⟨⟨t131, t132⟩, A200, H⟩ := H
      (try dsimp only at H)
      have A20 := Aside0.mk A200
      clear A200
      by_cases c21 : t132 = 0
      ·rw [if_pos c21] at H
       have c21b0 : (t132 == 0) = true := beq_iff_eq.mpr c21
       have c21b1 : (t132 != 0) = false := bne_eq_false_iff_eq.mpr c21
       clear c21
       replace H := Option.bind_eq_some_iff.mp H
       obtain ⟨t135, A220, H⟩ := H
       (try dsimp only at H)
       have A22 := Aside0.mk A220
       clear A220
       by_cases c23 : t135 = 0
       ·rw [if_pos c23] at H
        have c23b0 : (t135 == 0) = true := beq_iff_eq.mpr c23
        have c23b1 : (t135 != 0) = false := bne_eq_false_iff_eq.mpr c23
        clear c23
        by_cases c24 : t119.toList = ([49] : List UInt8)
        ·rw [if_pos c24] at H
         have c24b0 : (t119.toList == ([49] : List UInt8)) = true := beq_iff_eq.mpr c24
         have c24b1 : (t119.toList != ([49] : List UInt8)) = false := bne_eq_false_iff_eq.mpr c24
         clear c24
         simp only [Option.some.injEq, Prod.mk.injEq] at H
         obtain ⟨rfl, rfl, rfl, rfl⟩ := H
         go_wp2_with (first | ((with_reducible refine gC9 (f := 34) rfl ?_); refine goesL_ (some 35) rfl rfl Tryz.func34 (by kernel_rfl) rfl #[.int .u64 1] rfl (by (try simp only [List.map_toArray, List.map_cons, List.map_nil]); first | done | rfl | (simp only [List.length_drop, List.length_take]; rfl)) ?_; (with_reducible refine (nat_Of.calls 1 t123 _ A16.out).mono ?_); rintro e w25 ⟨v124, rfl, ho0, hb⟩; refine ⟨_, rfl, ?_⟩; have n0_ := Aside0.mk (Kd.rL9 ho0 (bZ9 (by repeat (first | (with_reducible first | exact HB.out | apply bA9 | apply bN9 | apply bD9 | refine bS9 ?_ GE115.out) | exact HB.out)))); have n1_ := Aside0.mk (kB9 (g := gb115) (o := .cells #[.bool false, .slice none 0 0, .slice none 0 0] 31 (0, 0)) (by (with_reducible repeat (first | refine kN9 ?_ _ | refine kD9 ?_ | refine kA9 ?_ _)); exact BK115.out) hb); have n2_ := Aside0.mk (bT9 (by repeat (first | (with_reducible first | exact HB.out | apply bA9 | apply bN9 | apply bD9 | refine bS9 ?_ GE115.out) | exact HB.out)) hb); clear BK115; clear HB; have HO125 := n0_; have BK115 := n1_; have HB := n2_; clear n0_ n1_ n2_; (try clear hb); (try clear hb2); (try clear hk); (try clear hi); (try clear ho0); obtain ⟨Ao26, co26, eo26⟩ := Kd.rS9 HO125.out; subst eo26) | ((with_reducible refine gD9 (N := 9) rfl ?_); refine bE9 ?hg (N := 9) ?hd (cs := #[.bool false, .slice none 0 0, .slice none 0 0]) (t := 31) ?hr ?_; (case hd => rfl); (case hg => rfl); (case hr => first | (go_simp; done) | (go_simp; rfl)); intro gb126 hg w27 hbox hb; have n0_ := Aside0.mk (Kd.rB9 (by (with_reducible repeat (first | apply Kd.rA9 | apply Kd.rN9 | apply Kd.rD9)); exact HO125.out) hb); have n1_ := Aside0.mk (kB9 (g := gb115) (o := .cells #[.bool false, .slice none 0 0, .slice none 0 0] 31 (0, 0)) (by (with_reducible repeat (first | refine kN9 ?_ _ | refine kD9 ?_ | refine kA9 ?_ _)); exact BK115.out) hb); have n2_ := Aside0.mk (bT9 (by repeat (first | (with_reducible first | exact HB.out | apply bA9 | apply bN9 | apply bD9 | refine bS9 ?_ GE115.out) | exact HB.out)) hb); have n3_ := Aside0.mk (hbox); have n4_ := Aside0.mk ((by rw [hg]; exact (bZ9 (by repeat (first | (with_reducible first | exact HB.out | apply bA9 | apply bN9 | apply bD9 | refine bS9 ?_ GE115.out) | exact HB.out))) : w.heap.size ≤ gb126)); have n5_ := Aside0.mk ((by rw [hg]; exact (bZ9 (by repeat (first | (with_reducible first | exact HB.out | apply bA9 | apply bN9 | apply bD9 | refine bS9 ?_ GE115.out) | exact HB.out))) : w.heap.size ≤ gb126)); have n6_ := Aside0.mk ((by rw [hg]; exact Nat.ne_of_lt (blk_lt (g := gb115) (o := .cells #[.bool false, .slice none 0 0, .slice none 0 0] 31 (0, 0)) (by (with_reducible repeat (first | refine kN9 ?_ _ | refine kD9 ?_ | refine kA9 ?_ _)); exact BK115.out)) : gb115 ≠ gb126)); have n7_ := Aside0.mk ((by rw [hg]; exact Nat.ne_of_gt (blk_lt (g := gb115) (o := .cells #[.bool false, .slice none 0 0, .slice none 0 0] 31 (0, 0)) (by (with_reducible repeat (first | refine kN9 ?_ _ | refine kD9 ?_ | refine kA9 ?_ _)); exact BK115.out)) : gb126 ≠ gb115)); clear HO125; clear BK115; clear HB; have HO125 := n0_; have BK115 := n1_; have HB := n2_; have BK126 := n3_; have GW126 := n4_; have GE126 := n5_; have NB115_126 := n6_; have NB126_115 := n7_; clear n0_ n1_ n2_ n3_ n4_ n5_ n6_ n7_; clear hb hbox hg; have hnb28 := NB126_115.out; have hnc28 := NB115_126.out; have hcz29_0 : w27.cell? ⟨gb126, 0, none⟩ = some (.bool false) := (kC9 BK126.out 0).trans rfl; have hcz29_1 : w27.cell? ⟨gb126, 1, none⟩ = some (.slice none 0 0) := (kC9 BK126.out 1).trans rfl; have hcz29_2 : w27.cell? ⟨gb126, 2, none⟩ = some (.slice none 0 0) := (kC9 BK126.out 2).trans rfl; have hfz29_0 := kF9 BK126.out 0; have hfz29_1 := kF9 BK126.out 1; have hfz29_2 := kF9 BK126.out 2) | ((with_reducible refine gC9 (f := 43) rfl ?_); refine goesL_ (some 39) rfl rfl Tryz.func43 (by kernel_rfl) rfl #[.string t118] rfl (by (try simp only [List.map_toArray, List.map_cons, List.map_nil]); first | done | rfl | (simp only [List.length_drop, List.length_take]; rfl)) ?_; (with_reducible refine (digits_read.calls t118 t127 t128 _ A17.out).mono ?_); rintro e w30 ⟨v129, rfl, ho0, hb⟩; refine ⟨_, rfl, ?_⟩; have n0_ := Aside0.mk (Kd.R_elder' (by (with_reducible repeat (first | apply Kd.rA9 | apply Kd.rN9 | apply Kd.rD9)); exact (Kd.R_mono (Kd.R_far (p := ⟨gb126, 2, none⟩) (Kd.R_far (p := ⟨gb126, 1, none⟩) (Kd.R_far (p := ⟨gb126, 0, none⟩) (Kd.rT9 HO125.out BK126.out (by decide)) (fun _ hk => hk.2) (.bool t117)) (fun _ hk => hk.2) (.slice none 0 0)) (fun _ hk => hk.2) (.slice Ao26 t123.length co26)) (fun _ h_ => h_.1))) (Kd.R_base ho0) hb); have n1_ := Aside0.mk (Kd.rL9 (Kd.R_new' ho0 (Kd.R_lt (by (with_reducible repeat (first | apply Kd.rA9 | apply Kd.rN9 | apply Kd.rD9)); exact (Kd.R_mono (Kd.R_far (p := ⟨gb126, 2, none⟩) (Kd.R_far (p := ⟨gb126, 1, none⟩) (Kd.R_far (p := ⟨gb126, 0, none⟩) (Kd.rT9 HO125.out BK126.out (by decide)) (fun _ hk => hk.2) (.bool t117)) (fun _ hk => hk.2) (.slice none 0 0)) (fun _ hk => hk.2) (.slice Ao26 t123.length co26)) (fun _ h_ => h_.1))))) (bZ9 (by repeat (first | (with_reducible first | exact HB.out | apply bA9 | apply bN9 | apply bD9 | refine bS9 ?_ GE115.out | refine bS9 ?_ GE126.out) | exact HB.out)))); have n2_ := Aside0.mk (kB9 (g := gb115) (o := .cells #[.bool false, .slice none 0 0, .slice none 0 0] 31 (0, 0)) (by (with_reducible repeat (first | refine kN9 ?_ _ | refine kD9 ?_ | refine kA9 ?_ _)); refine blk_far ?_ NB115_126.out _; (with_reducible repeat (first | refine kN9 ?_ _ | refine kD9 ?_ | refine kA9 ?_ _)); refine blk_far ?_ NB115_126.out _; (with_reducible repeat (first | refine kN9 ?_ _ | refine kD9 ?_ | refine kA9 ?_ _)); refine blk_far ?_ NB115_126.out _; (with_reducible repeat (first | refine kN9 ?_ _ | refine kD9 ?_ | refine kA9 ?_ _)); exact BK115.out) hb); have n3_ := Aside0.mk (kB9 (g := gb126) (o := .cells #[.bool t117, .slice none 0 0, .slice Ao26 t123.length co26] 31 (0, 0)) (by (with_reducible repeat (first | refine kN9 ?_ _ | refine kD9 ?_ | refine kA9 ?_ _)); refine kP9 (cs := #[.bool t117, .slice none 0 0, .slice none 0 0]) ?_ 2 _ rfl; (with_reducible repeat (first | refine kN9 ?_ _ | refine kD9 ?_ | refine kA9 ?_ _)); refine kP9 (cs := #[.bool t117, .slice none 0 0, .slice none 0 0]) ?_ 1 _ rfl; (with_reducible repeat (first | refine kN9 ?_ _ | refine kD9 ?_ | refine kA9 ?_ _)); refine kP9 (cs := #[.bool false, .slice none 0 0, .slice none 0 0]) ?_ 0 _ rfl; (with_reducible repeat (first | refine kN9 ?_ _ | refine kD9 ?_ | refine kA9 ?_ _)); exact BK126.out) hb); have n4_ := Aside0.mk (bT9 (by repeat (first | (with_reducible first | exact HB.out | apply bA9 | apply bN9 | apply bD9 | refine bS9 ?_ GE115.out | refine bS9 ?_ GE126.out) | exact HB.out)) hb); clear HO125; clear BK115; clear BK126; clear HB; have HO125 := n0_; have HO130 := n1_; have BK115 := n2_; have BK126 := n3_; have HB := n4_; clear n0_ n1_ n2_ n3_ n4_; (try clear hb); (try clear hb2); (try clear hk); (try clear hi); (try clear ho0); obtain ⟨Ao31, co31, eo31⟩ := Kd.rS9 HO130.out; subst eo31; have hcz32_0 : w30.cell? ⟨gb126, 0, none⟩ = some (.bool t117) := (kC9 BK126.out 0).trans rfl; have hcz32_1 : w30.cell? ⟨gb126, 1, none⟩ = some (.slice none 0 0) := (kC9 BK126.out 1).trans rfl; have hcz32_2 : w30.cell? ⟨gb126, 2, none⟩ = some (.slice Ao26 t123.length co26) := (kC9 BK126.out 2).trans rfl; have hfz32_0 := kF9 BK126.out 0; have hfz32_1 := kF9 BK126.out 1; have hfz32_2 := kF9 BK126.out 2) | ((with_reducible refine gC9 (f := 43) rfl ?_); refine goesL_ (some 50) rfl rfl Tryz.func43 (by kernel_rfl) rfl #[.string t119] rfl (by (try simp only [List.map_toArray, List.map_cons, List.map_nil]); first | done | rfl | (simp only [List.length_drop, List.length_take]; rfl)) ?_; (with_reducible refine (digits_read.calls t119 t131 t132 _ A20.out).mono ?_); rintro e w33 ⟨v133, rfl, ho0, hb⟩; refine ⟨_, rfl, ?_⟩; have n0_ := Aside0.mk (Kd.R_elder' (by (with_reducible repeat (first | apply Kd.rA9 | apply Kd.rN9 | apply Kd.rD9)); exact (Kd.R_mono (Kd.R_far (p := ⟨gb126, 1, none⟩) (Kd.rT9 HO125.out BK126.out (by decide)) (fun _ hk => hk.2) (.slice Ao31 t127.length co31)) (fun _ h_ => h_.1))) (Kd.R_base ho0) hb); have n1_ := Aside0.mk (Kd.R_elder' (by (with_reducible repeat (first | apply Kd.rA9 | apply Kd.rN9 | apply Kd.rD9)); exact (Kd.R_mono (Kd.R_far (p := ⟨gb126, 1, none⟩) (Kd.rT9 HO130.out BK126.out (by decide)) (fun _ hk => hk.2) (.slice Ao31 t127.length co31)) (fun _ h_ => h_.1))) (Kd.R_base ho0) hb); have n2_ := Aside0.mk (Kd.rL9 (Kd.R_new' (Kd.R_new' ho0 (Kd.R_lt (by (with_reducible repeat (first | apply Kd.rA9 | apply Kd.rN9 | apply Kd.rD9)); exact (Kd.R_mono (Kd.R_far (p := ⟨gb126, 1, none⟩) (Kd.rT9 HO125.out BK126.out (by decide)) (fun _ hk => hk.2) (.slice Ao31 t127.length co31)) (fun _ h_ => h_.1))))) (Kd.R_lt (by (with_reducible repeat (first | apply Kd.rA9 | apply Kd.rN9 | apply Kd.rD9)); exact (Kd.R_mono (Kd.R_far (p := ⟨gb126, 1, none⟩) (Kd.rT9 HO130.out BK126.out (by decide)) (fun _ hk => hk.2) (.slice Ao31 t127.length co31)) (fun _ h_ => h_.1))))) (bZ9 (by repeat (first | (with_reducible first | exact HB.out | apply bA9 | apply bN9 | apply bD9 | refine bS9 ?_ GE115.out | refine bS9 ?_ GE126.out) | exact HB.out)))); have n3_ := Aside0.mk (kB9 (g := gb115) (o := .cells #[.bool false, .slice none 0 0, .slice none 0 0] 31 (0, 0)) (by (with_reducible repeat (first | refine kN9 ?_ _ | refine kD9 ?_ | refine kA9 ?_ _)); refine blk_far ?_ NB115_126.out _; (with_reducible repeat (first | refine kN9 ?_ _ | refine kD9 ?_ | refine kA9 ?_ _)); exact BK115.out) hb); have n4_ := Aside0.mk (kB9 (g := gb126) (o := .cells #[.bool t117, .slice Ao31 t127.length co31, .slice Ao26 t123.length co26] 31 (0, 0)) (by (with_reducible repeat (first | refine kN9 ?_ _ | refine kD9 ?_ | refine kA9 ?_ _)); refine kP9 (cs := #[.bool t117, .slice none 0 0, .slice Ao26 t123.length co26]) ?_ 1 _ rfl; (with_reducible repeat (first | refine kN9 ?_ _ | refine kD9 ?_ | refine kA9 ?_ _)); exact BK126.out) hb); have n5_ := Aside0.mk (bT9 (by repeat (first | (with_reducible first | exact HB.out | apply bA9 | apply bN9 | apply bD9 | refine bS9 ?_ GE115.out | refine bS9 ?_ GE126.out) | exact HB.out)) hb); clear HO125; clear HO130; clear BK115; clear BK126; clear HB; have HO125 := n0_; have HO130 := n1_; have HO134 := n2_; have BK115 := n3_; have BK126 := n4_; have HB := n5_; clear n0_ n1_ n2_ n3_ n4_ n5_; (try clear hb); (try clear hb2); (try clear hk); (try clear hi); (try clear ho0); obtain ⟨Ao34, co34, eo34⟩ := Kd.rS9 HO134.out; subst eo34; have hcz35_0 : w33.cell? ⟨gb126, 0, none⟩ = some (.bool t117) := (kC9 BK126.out 0).trans rfl; have hcz35_1 : w33.cell? ⟨gb126, 1, none⟩ = some (.slice Ao31 t127.length co31) := (kC9 BK126.out 1).trans rfl; have hcz35_2 : w33.cell? ⟨gb126, 2, none⟩ = some (.slice Ao26 t123.length co26) := (kC9 BK126.out 2).trans rfl; have hfz35_0 := kF9 BK126.out 0; have hfz35_1 := kF9 BK126.out 1; have hfz35_2 := kF9 BK126.out 2) | ((with_reducible refine gC9 (f := 44) rfl ?_); refine goesL_ (some 59) rfl rfl Tryz.func44 (by kernel_rfl) rfl #[.agg #[.bool t117, .slice Ao31 t127.length co31, .slice Ao34 t131.length co34]] rfl (by (try simp only [List.map_toArray, List.map_cons, List.map_nil]); first | done | rfl | (simp only [List.length_drop, List.length_take]; rfl)) ?_; (with_reducible refine (rat_May.calls t117 _ _ t127 _ _ t131 t135 _ ?side1 ?side2 ?side3 ?side4 A22.out).mono ?_); (case side1 => refine (Kd.rR9 (e := 88) (base := w.heap.size) (ok := fun k_ => ((True ∧ some k_ ≠ (.slice Ao26 t123.length co26 : Value).ownBlock) ∧ some k_ ≠ (.slice Ao34 t131.length co34 : Value).ownBlock)) (n := t127.length) (c := co31) ?_).2.2; exact (by (with_reducible repeat (first | apply Kd.rA9 | apply Kd.rN9 | apply Kd.rD9)); exact (Kd.R_mono (Kd.R_far (p := ⟨gb126, 2, none⟩) (Kd.rT9 HO130.out BK126.out (by decide)) (fun _ hk => hk.2) (.slice Ao34 t131.length co34)) (fun _ h_ => h_.1)))); (case side2 => exact (Kd.rR9 HO130.out).2.1); (case side3 => refine (Kd.rR9 (e := 88) (base := w.heap.size) (ok := fun k_ => ((True ∧ some k_ ≠ (.slice Ao26 t123.length co26 : Value).ownBlock) ∧ some k_ ≠ (.slice Ao31 t127.length co31 : Value).ownBlock)) (n := t131.length) (c := co34) ?_).2.2; exact (by (with_reducible repeat (first | apply Kd.rA9 | apply Kd.rN9 | apply Kd.rD9)); exact (Kd.R_mono (Kd.R_far (p := ⟨gb126, 2, none⟩) (Kd.rT9 HO134.out BK126.out (by decide)) (fun _ hk => hk.2) (.slice Ao34 t131.length co34)) (fun _ h_ => h_.1)))); (case side4 => exact (Kd.rR9 HO134.out).2.1); rintro e w36 ⟨rfl, hb⟩; refine ⟨_, rfl, ?_⟩; have n0_ := Aside0.mk (Kd.rB9 (by (with_reducible repeat (first | apply Kd.rA9 | apply Kd.rN9 | apply Kd.rD9)); exact (Kd.R_mono (Kd.R_far (p := ⟨gb126, 2, none⟩) (Kd.rT9 HO125.out BK126.out (by decide)) (fun _ hk => hk.2) (.slice Ao34 t131.length co34)) (fun _ h_ => h_.1))) hb); have n1_ := Aside0.mk (Kd.rB9 (by (with_reducible repeat (first | apply Kd.rA9 | apply Kd.rN9 | apply Kd.rD9)); exact (Kd.R_mono (Kd.R_far (p := ⟨gb126, 2, none⟩) (Kd.rT9 HO130.out BK126.out (by decide)) (fun _ hk => hk.2) (.slice Ao34 t131.length co34)) (fun _ h_ => h_.1))) hb); have n2_ := Aside0.mk (Kd.rB9 (by (with_reducible repeat (first | apply Kd.rA9 | apply Kd.rN9 | apply Kd.rD9)); exact (Kd.R_mono (Kd.R_far (p := ⟨gb126, 2, none⟩) (Kd.rT9 HO134.out BK126.out (by decide)) (fun _ hk => hk.2) (.slice Ao34 t131.length co34)) (fun _ h_ => h_.1))) hb); have n3_ := Aside0.mk (kB9 (g := gb115) (o := .cells #[.bool false, .slice none 0 0, .slice none 0 0] 31 (0, 0)) (by (with_reducible repeat (first | refine kN9 ?_ _ | refine kD9 ?_ | refine kA9 ?_ _)); refine blk_far ?_ NB115_126.out _; (with_reducible repeat (first | refine kN9 ?_ _ | refine kD9 ?_ | refine kA9 ?_ _)); exact BK115.out) hb); have n4_ := Aside0.mk (kB9 (g := gb126) (o := .cells #[.bool t117, .slice Ao31 t127.length co31, .slice Ao34 t131.length co34] 31 (0, 0)) (by (with_reducible repeat (first | refine kN9 ?_ _ | refine kD9 ?_ | refine kA9 ?_ _)); refine kP9 (cs := #[.bool t117, .slice Ao31 t127.length co31, .slice Ao26 t123.length co26]) ?_ 2 _ rfl; (with_reducible repeat (first | refine kN9 ?_ _ | refine kD9 ?_ | refine kA9 ?_ _)); exact BK126.out) hb); have n5_ := Aside0.mk (bT9 (by repeat (first | (with_reducible first | exact HB.out | apply bA9 | apply bN9 | apply bD9 | refine bS9 ?_ GE115.out | refine bS9 ?_ GE126.out) | exact HB.out)) hb); clear HO125; clear HO130; clear HO134; clear BK115; clear BK126; clear HB; have HO125 := n0_; have HO130 := n1_; have HO134 := n2_; have BK115 := n3_; have BK126 := n4_; have HB := n5_; clear n0_ n1_ n2_ n3_ n4_ n5_; (try clear hb); (try clear hb2); (try clear hk); (try clear hi); have hcz37_0 : w36.cell? ⟨gb115, 0, none⟩ = some (.bool false) := (kC9 BK115.out 0).trans rfl; have hcz37_1 : w36.cell? ⟨gb115, 1, none⟩ = some (.slice none 0 0) := (kC9 BK115.out 1).trans rfl; have hcz37_2 : w36.cell? ⟨gb115, 2, none⟩ = some (.slice none 0 0) := (kC9 BK115.out 2).trans rfl; have hfz37_0 := kF9 BK115.out 0; have hfz37_1 := kF9 BK115.out 1; have hfz37_2 := kF9 BK115.out 2))
         refine bodyPost_ret (results_ct rfl _ _ gb115 31 #[.bool false, .slice none 0 0, .slice none 0 0] (0, 0) _ rfl (by (with_reducible repeat (first | refine kN9 ?_ _ | refine kD9 ?_ | refine kA9 ?_ _)); refine kP9 (cs := #[.bool false, .slice none 0 0, .slice none 0 0]) ?_ 2 _ rfl; (with_reducible repeat (first | refine kN9 ?_ _ | refine kD9 ?_ | refine kA9 ?_ _)); refine kP9 (cs := #[.bool false, .slice none 0 0, .slice none 0 0]) ?_ 1 _ rfl; (with_reducible repeat (first | refine kN9 ?_ _ | refine kD9 ?_ | refine kA9 ?_ _)); refine kP9 (cs := #[.bool false, .slice none 0 0, .slice none 0 0]) ?_ 0 _ rfl; (with_reducible repeat (first | refine kN9 ?_ _ | refine kD9 ?_ | refine kA9 ?_ _)); exact BK115.out) Tryz.underlying31 rfl (by kernel_rfl)) rfl ?_
         exact ⟨_, _, by first | rfl | (simp [eN9, eS9] <;> rfl) | (simp [*, eN9, eS9] <;> rfl), by first | exact Kd.R_nil _ _ _ _ _ | exact Kd.N_nil _ _ _ _ _ | exact Kd.V_nil _ _ _ _ _ | exact Kd.Q_nil _ _ _ _ _ | exact Kd.S_nil _ _ _ _ _, by first | exact Kd.R_nil _ _ _ _ _ | exact Kd.N_nil _ _ _ _ _ | exact Kd.V_nil _ _ _ _ _ | exact Kd.Q_nil _ _ _ _ _ | exact Kd.S_nil _ _ _ _ _, by repeat (first | (with_reducible first | exact HB.out | apply bA9 | apply bN9 | apply bD9 | refine bS9 ?_ GE115.out | refine bS9 ?_ GE126.out) | exact HB.out)⟩
        ·rw [if_neg c24] at H
         have c24b0 : (t119.toList == ([49] : List UInt8)) = false := beq_eq_false_iff_ne.mpr c24
         have c24b1 : (t119.toList != ([49] : List UInt8)) = true := bne_iff_ne.mpr c24
         simp only [Option.some.injEq, Prod.mk.injEq] at H
         obtain ⟨rfl, rfl, rfl, rfl⟩ := H
         go_wp2_with (first | ((with_reducible refine gC9 (f := 34) rfl ?_); refine goesL_ (some 35) rfl rfl Tryz.func34 (by kernel_rfl) rfl #[.int .u64 1] rfl (by (try simp only [List.map_toArray, List.map_cons, List.map_nil]); first | done | rfl | (simp only [List.length_drop, List.length_take]; rfl)) ?_; (with_reducible refine (nat_Of.calls 1 t123 _ A16.out).mono ?_); rintro e w38 ⟨v124, rfl, ho0, hb⟩; refine ⟨_, rfl, ?_⟩; have n0_ := Aside0.mk (Kd.rL9 ho0 (bZ9 (by repeat (first | (with_reducible first | exact HB.out | apply bA9 | apply bN9 | apply bD9 | refine bS9 ?_ GE115.out) | exact HB.out)))); have n1_ := Aside0.mk (kB9 (g := gb115) (o := .cells #[.bool false, .slice none 0 0, .slice none 0 0] 31 (0, 0)) (by (with_reducible repeat (first | refine kN9 ?_ _ | refine kD9 ?_ | refine kA9 ?_ _)); exact BK115.out) hb); have n2_ := Aside0.mk (bT9 (by repeat (first | (with_reducible first | exact HB.out | apply bA9 | apply bN9 | apply bD9 | refine bS9 ?_ GE115.out) | exact HB.out)) hb); clear BK115; clear HB; have HO125 := n0_; have BK115 := n1_; have HB := n2_; clear n0_ n1_ n2_; (try clear hb); (try clear hb2); (try clear hk); (try clear hi); (try clear ho0); obtain ⟨Ao39, co39, eo39⟩ := Kd.rS9 HO125.out; subst eo39) | ((with_reducible refine gD9 (N := 9) rfl ?_); refine bE9 ?hg (N := 9) ?hd (cs := #[.bool false, .slice none 0 0, .slice none 0 0]) (t := 31) ?hr ?_; (case hd => rfl); (case hg => rfl); (case hr => first | (go_simp; done) | (go_simp; rfl)); intro gb126 hg w40 hbox hb; have n0_ := Aside0.mk (Kd.rB9 (by (with_reducible repeat (first | apply Kd.rA9 | apply Kd.rN9 | apply Kd.rD9)); exact HO125.out) hb); have n1_ := Aside0.mk (kB9 (g := gb115) (o := .cells #[.bool false, .slice none 0 0, .slice none 0 0] 31 (0, 0)) (by (with_reducible repeat (first | refine kN9 ?_ _ | refine kD9 ?_ | refine kA9 ?_ _)); exact BK115.out) hb); have n2_ := Aside0.mk (bT9 (by repeat (first | (with_reducible first | exact HB.out | apply bA9 | apply bN9 | apply bD9 | refine bS9 ?_ GE115.out) | exact HB.out)) hb); have n3_ := Aside0.mk (hbox); have n4_ := Aside0.mk ((by rw [hg]; exact (bZ9 (by repeat (first | (with_reducible first | exact HB.out | apply bA9 | apply bN9 | apply bD9 | refine bS9 ?_ GE115.out) | exact HB.out))) : w.heap.size ≤ gb126)); have n5_ := Aside0.mk ((by rw [hg]; exact (bZ9 (by repeat (first | (with_reducible first | exact HB.out | apply bA9 | apply bN9 | apply bD9 | refine bS9 ?_ GE115.out) | exact HB.out))) : w.heap.size ≤ gb126)); have n6_ := Aside0.mk ((by rw [hg]; exact Nat.ne_of_lt (blk_lt (g := gb115) (o := .cells #[.bool false, .slice none 0 0, .slice none 0 0] 31 (0, 0)) (by (with_reducible repeat (first | refine kN9 ?_ _ | refine kD9 ?_ | refine kA9 ?_ _)); exact BK115.out)) : gb115 ≠ gb126)); have n7_ := Aside0.mk ((by rw [hg]; exact Nat.ne_of_gt (blk_lt (g := gb115) (o := .cells #[.bool false, .slice none 0 0, .slice none 0 0] 31 (0, 0)) (by (with_reducible repeat (first | refine kN9 ?_ _ | refine kD9 ?_ | refine kA9 ?_ _)); exact BK115.out)) : gb126 ≠ gb115)); clear HO125; clear BK115; clear HB; have HO125 := n0_; have BK115 := n1_; have HB := n2_; have BK126 := n3_; have GW126 := n4_; have GE126 := n5_; have NB115_126 := n6_; have NB126_115 := n7_; clear n0_ n1_ n2_ n3_ n4_ n5_ n6_ n7_; clear hb hbox hg; have hnb41 := NB126_115.out; have hnc41 := NB115_126.out; have hcz42_0 : w40.cell? ⟨gb126, 0, none⟩ = some (.bool false) := (kC9 BK126.out 0).trans rfl; have hcz42_1 : w40.cell? ⟨gb126, 1, none⟩ = some (.slice none 0 0) := (kC9 BK126.out 1).trans rfl; have hcz42_2 : w40.cell? ⟨gb126, 2, none⟩ = some (.slice none 0 0) := (kC9 BK126.out 2).trans rfl; have hfz42_0 := kF9 BK126.out 0; have hfz42_1 := kF9 BK126.out 1; have hfz42_2 := kF9 BK126.out 2) | ((with_reducible refine gC9 (f := 43) rfl ?_); refine goesL_ (some 39) rfl rfl Tryz.func43 (by kernel_rfl) rfl #[.string t118] rfl (by (try simp only [List.map_toArray, List.map_cons, List.map_nil]); first | done | rfl | (simp only [List.length_drop, List.length_take]; rfl)) ?_; (with_reducible refine (digits_read.calls t118 t127 t128 _ A17.out).mono ?_); rintro e w43 ⟨v129, rfl, ho0, hb⟩; refine ⟨_, rfl, ?_⟩; have n0_ := Aside0.mk (Kd.R_elder' (by (with_reducible repeat (first | apply Kd.rA9 | apply Kd.rN9 | apply Kd.rD9)); exact (Kd.R_mono (Kd.R_far (p := ⟨gb126, 2, none⟩) (Kd.R_far (p := ⟨gb126, 1, none⟩) (Kd.R_far (p := ⟨gb126, 0, none⟩) (Kd.rT9 HO125.out BK126.out (by decide)) (fun _ hk => hk.2) (.bool t117)) (fun _ hk => hk.2) (.slice none 0 0)) (fun _ hk => hk.2) (.slice Ao39 t123.length co39)) (fun _ h_ => h_.1))) (Kd.R_base ho0) hb); have n1_ := Aside0.mk (Kd.rL9 (Kd.R_new' ho0 (Kd.R_lt (by (with_reducible repeat (first | apply Kd.rA9 | apply Kd.rN9 | apply Kd.rD9)); exact (Kd.R_mono (Kd.R_far (p := ⟨gb126, 2, none⟩) (Kd.R_far (p := ⟨gb126, 1, none⟩) (Kd.R_far (p := ⟨gb126, 0, none⟩) (Kd.rT9 HO125.out BK126.out (by decide)) (fun _ hk => hk.2) (.bool t117)) (fun _ hk => hk.2) (.slice none 0 0)) (fun _ hk => hk.2) (.slice Ao39 t123.length co39)) (fun _ h_ => h_.1))))) (bZ9 (by repeat (first | (with_reducible first | exact HB.out | apply bA9 | apply bN9 | apply bD9 | refine bS9 ?_ GE115.out | refine bS9 ?_ GE126.out) | exact HB.out)))); have n2_ := Aside0.mk (kB9 (g := gb115) (o := .cells #[.bool false, .slice none 0 0, .slice none 0 0] 31 (0, 0)) (by (with_reducible repeat (first | refine kN9 ?_ _ | refine kD9 ?_ | refine kA9 ?_ _)); refine blk_far ?_ NB115_126.out _; (with_reducible repeat (first | refine kN9 ?_ _ | refine kD9 ?_ | refine kA9 ?_ _)); refine blk_far ?_ NB115_126.out _; (with_reducible repeat (first | refine kN9 ?_ _ | refine kD9 ?_ | refine kA9 ?_ _)); refine blk_far ?_ NB115_126.out _; (with_reducible repeat (first | refine kN9 ?_ _ | refine kD9 ?_ | refine kA9 ?_ _)); exact BK115.out) hb); have n3_ := Aside0.mk (kB9 (g := gb126) (o := .cells #[.bool t117, .slice none 0 0, .slice Ao39 t123.length co39] 31 (0, 0)) (by (with_reducible repeat (first | refine kN9 ?_ _ | refine kD9 ?_ | refine kA9 ?_ _)); refine kP9 (cs := #[.bool t117, .slice none 0 0, .slice none 0 0]) ?_ 2 _ rfl; (with_reducible repeat (first | refine kN9 ?_ _ | refine kD9 ?_ | refine kA9 ?_ _)); refine kP9 (cs := #[.bool t117, .slice none 0 0, .slice none 0 0]) ?_ 1 _ rfl; (with_reducible repeat (first | refine kN9 ?_ _ | refine kD9 ?_ | refine kA9 ?_ _)); refine kP9 (cs := #[.bool false, .slice none 0 0, .slice none 0 0]) ?_ 0 _ rfl; (with_reducible repeat (first | refine kN9 ?_ _ | refine kD9 ?_ | refine kA9 ?_ _)); exact BK126.out) hb); have n4_ := Aside0.mk (bT9 (by repeat (first | (with_reducible first | exact HB.out | apply bA9 | apply bN9 | apply bD9 | refine bS9 ?_ GE115.out | refine bS9 ?_ GE126.out) | exact HB.out)) hb); clear HO125; clear BK115; clear BK126; clear HB; have HO125 := n0_; have HO130 := n1_; have BK115 := n2_; have BK126 := n3_; have HB := n4_; clear n0_ n1_ n2_ n3_ n4_; (try clear hb); (try clear hb2); (try clear hk); (try clear hi); (try clear ho0); obtain ⟨Ao44, co44, eo44⟩ := Kd.rS9 HO130.out; subst eo44; have hcz45_0 : w43.cell? ⟨gb126, 0, none⟩ = some (.bool t117) := (kC9 BK126.out 0).trans rfl; have hcz45_1 : w43.cell? ⟨gb126, 1, none⟩ = some (.slice none 0 0) := (kC9 BK126.out 1).trans rfl; have hcz45_2 : w43.cell? ⟨gb126, 2, none⟩ = some (.slice Ao39 t123.length co39) := (kC9 BK126.out 2).trans rfl; have hfz45_0 := kF9 BK126.out 0; have hfz45_1 := kF9 BK126.out 1; have hfz45_2 := kF9 BK126.out 2) | ((with_reducible refine gC9 (f := 43) rfl ?_); refine goesL_ (some 50) rfl rfl Tryz.func43 (by kernel_rfl) rfl #[.string t119] rfl (by (try simp only [List.map_toArray, List.map_cons, List.map_nil]); first | done | rfl | (simp only [List.length_drop, List.length_take]; rfl)) ?_; (with_reducible refine (digits_read.calls t119 t131 t132 _ A20.out).mono ?_); rintro e w46 ⟨v133, rfl, ho0, hb⟩; refine ⟨_, rfl, ?_⟩; have n0_ := Aside0.mk (Kd.R_elder' (by (with_reducible repeat (first | apply Kd.rA9 | apply Kd.rN9 | apply Kd.rD9)); exact (Kd.R_mono (Kd.R_far (p := ⟨gb126, 1, none⟩) (Kd.rT9 HO125.out BK126.out (by decide)) (fun _ hk => hk.2) (.slice Ao44 t127.length co44)) (fun _ h_ => h_.1))) (Kd.R_base ho0) hb); have n1_ := Aside0.mk (Kd.R_elder' (by (with_reducible repeat (first | apply Kd.rA9 | apply Kd.rN9 | apply Kd.rD9)); exact (Kd.R_mono (Kd.R_far (p := ⟨gb126, 1, none⟩) (Kd.rT9 HO130.out BK126.out (by decide)) (fun _ hk => hk.2) (.slice Ao44 t127.length co44)) (fun _ h_ => h_.1))) (Kd.R_base ho0) hb); have n2_ := Aside0.mk (Kd.rL9 (Kd.R_new' (Kd.R_new' ho0 (Kd.R_lt (by (with_reducible repeat (first | apply Kd.rA9 | apply Kd.rN9 | apply Kd.rD9)); exact (Kd.R_mono (Kd.R_far (p := ⟨gb126, 1, none⟩) (Kd.rT9 HO125.out BK126.out (by decide)) (fun _ hk => hk.2) (.slice Ao44 t127.length co44)) (fun _ h_ => h_.1))))) (Kd.R_lt (by (with_reducible repeat (first | apply Kd.rA9 | apply Kd.rN9 | apply Kd.rD9)); exact (Kd.R_mono (Kd.R_far (p := ⟨gb126, 1, none⟩) (Kd.rT9 HO130.out BK126.out (by decide)) (fun _ hk => hk.2) (.slice Ao44 t127.length co44)) (fun _ h_ => h_.1))))) (bZ9 (by repeat (first | (with_reducible first | exact HB.out | apply bA9 | apply bN9 | apply bD9 | refine bS9 ?_ GE115.out | refine bS9 ?_ GE126.out) | exact HB.out)))); have n3_ := Aside0.mk (kB9 (g := gb115) (o := .cells #[.bool false, .slice none 0 0, .slice none 0 0] 31 (0, 0)) (by (with_reducible repeat (first | refine kN9 ?_ _ | refine kD9 ?_ | refine kA9 ?_ _)); refine blk_far ?_ NB115_126.out _; (with_reducible repeat (first | refine kN9 ?_ _ | refine kD9 ?_ | refine kA9 ?_ _)); exact BK115.out) hb); have n4_ := Aside0.mk (kB9 (g := gb126) (o := .cells #[.bool t117, .slice Ao44 t127.length co44, .slice Ao39 t123.length co39] 31 (0, 0)) (by (with_reducible repeat (first | refine kN9 ?_ _ | refine kD9 ?_ | refine kA9 ?_ _)); refine kP9 (cs := #[.bool t117, .slice none 0 0, .slice Ao39 t123.length co39]) ?_ 1 _ rfl; (with_reducible repeat (first | refine kN9 ?_ _ | refine kD9 ?_ | refine kA9 ?_ _)); exact BK126.out) hb); have n5_ := Aside0.mk (bT9 (by repeat (first | (with_reducible first | exact HB.out | apply bA9 | apply bN9 | apply bD9 | refine bS9 ?_ GE115.out | refine bS9 ?_ GE126.out) | exact HB.out)) hb); clear HO125; clear HO130; clear BK115; clear BK126; clear HB; have HO125 := n0_; have HO130 := n1_; have HO134 := n2_; have BK115 := n3_; have BK126 := n4_; have HB := n5_; clear n0_ n1_ n2_ n3_ n4_ n5_; (try clear hb); (try clear hb2); (try clear hk); (try clear hi); (try clear ho0); obtain ⟨Ao47, co47, eo47⟩ := Kd.rS9 HO134.out; subst eo47; have hcz48_0 : w46.cell? ⟨gb126, 0, none⟩ = some (.bool t117) := (kC9 BK126.out 0).trans rfl; have hcz48_1 : w46.cell? ⟨gb126, 1, none⟩ = some (.slice Ao44 t127.length co44) := (kC9 BK126.out 1).trans rfl; have hcz48_2 : w46.cell? ⟨gb126, 2, none⟩ = some (.slice Ao39 t123.length co39) := (kC9 BK126.out 2).trans rfl; have hfz48_0 := kF9 BK126.out 0; have hfz48_1 := kF9 BK126.out 1; have hfz48_2 := kF9 BK126.out 2) | ((with_reducible refine gC9 (f := 44) rfl ?_); refine goesL_ (some 59) rfl rfl Tryz.func44 (by kernel_rfl) rfl #[.agg #[.bool t117, .slice Ao44 t127.length co44, .slice Ao47 t131.length co47]] rfl (by (try simp only [List.map_toArray, List.map_cons, List.map_nil]); first | done | rfl | (simp only [List.length_drop, List.length_take]; rfl)) ?_; (with_reducible refine (rat_May.calls t117 _ _ t127 _ _ t131 t135 _ ?side1 ?side2 ?side3 ?side4 A22.out).mono ?_); (case side1 => refine (Kd.rR9 (e := 88) (base := w.heap.size) (ok := fun k_ => ((True ∧ some k_ ≠ (.slice Ao39 t123.length co39 : Value).ownBlock) ∧ some k_ ≠ (.slice Ao47 t131.length co47 : Value).ownBlock)) (n := t127.length) (c := co44) ?_).2.2; exact (by (with_reducible repeat (first | apply Kd.rA9 | apply Kd.rN9 | apply Kd.rD9)); exact (Kd.R_mono (Kd.R_far (p := ⟨gb126, 2, none⟩) (Kd.rT9 HO130.out BK126.out (by decide)) (fun _ hk => hk.2) (.slice Ao47 t131.length co47)) (fun _ h_ => h_.1)))); (case side2 => exact (Kd.rR9 HO130.out).2.1); (case side3 => refine (Kd.rR9 (e := 88) (base := w.heap.size) (ok := fun k_ => ((True ∧ some k_ ≠ (.slice Ao39 t123.length co39 : Value).ownBlock) ∧ some k_ ≠ (.slice Ao44 t127.length co44 : Value).ownBlock)) (n := t131.length) (c := co47) ?_).2.2; exact (by (with_reducible repeat (first | apply Kd.rA9 | apply Kd.rN9 | apply Kd.rD9)); exact (Kd.R_mono (Kd.R_far (p := ⟨gb126, 2, none⟩) (Kd.rT9 HO134.out BK126.out (by decide)) (fun _ hk => hk.2) (.slice Ao47 t131.length co47)) (fun _ h_ => h_.1)))); (case side4 => exact (Kd.rR9 HO134.out).2.1); rintro e w49 ⟨rfl, hb⟩; refine ⟨_, rfl, ?_⟩; have n0_ := Aside0.mk (Kd.rB9 (by (with_reducible repeat (first | apply Kd.rA9 | apply Kd.rN9 | apply Kd.rD9)); exact (Kd.R_mono (Kd.R_far (p := ⟨gb126, 2, none⟩) (Kd.rT9 HO125.out BK126.out (by decide)) (fun _ hk => hk.2) (.slice Ao47 t131.length co47)) (fun _ h_ => h_.1))) hb); have n1_ := Aside0.mk (Kd.rB9 (by (with_reducible repeat (first | apply Kd.rA9 | apply Kd.rN9 | apply Kd.rD9)); exact (Kd.R_mono (Kd.R_far (p := ⟨gb126, 2, none⟩) (Kd.rT9 HO130.out BK126.out (by decide)) (fun _ hk => hk.2) (.slice Ao47 t131.length co47)) (fun _ h_ => h_.1))) hb); have n2_ := Aside0.mk (Kd.rB9 (by (with_reducible repeat (first | apply Kd.rA9 | apply Kd.rN9 | apply Kd.rD9)); exact (Kd.R_mono (Kd.R_far (p := ⟨gb126, 2, none⟩) (Kd.rT9 HO134.out BK126.out (by decide)) (fun _ hk => hk.2) (.slice Ao47 t131.length co47)) (fun _ h_ => h_.1))) hb); have n3_ := Aside0.mk (kB9 (g := gb115) (o := .cells #[.bool false, .slice none 0 0, .slice none 0 0] 31 (0, 0)) (by (with_reducible repeat (first | refine kN9 ?_ _ | refine kD9 ?_ | refine kA9 ?_ _)); refine blk_far ?_ NB115_126.out _; (with_reducible repeat (first | refine kN9 ?_ _ | refine kD9 ?_ | refine kA9 ?_ _)); exact BK115.out) hb); have n4_ := Aside0.mk (kB9 (g := gb126) (o := .cells #[.bool t117, .slice Ao44 t127.length co44, .slice Ao47 t131.length co47] 31 (0, 0)) (by (with_reducible repeat (first | refine kN9 ?_ _ | refine kD9 ?_ | refine kA9 ?_ _)); refine kP9 (cs := #[.bool t117, .slice Ao44 t127.length co44, .slice Ao39 t123.length co39]) ?_ 2 _ rfl; (with_reducible repeat (first | refine kN9 ?_ _ | refine kD9 ?_ | refine kA9 ?_ _)); exact BK126.out) hb); have n5_ := Aside0.mk (bT9 (by repeat (first | (with_reducible first | exact HB.out | apply bA9 | apply bN9 | apply bD9 | refine bS9 ?_ GE115.out | refine bS9 ?_ GE126.out) | exact HB.out)) hb); clear HO125; clear HO130; clear HO134; clear BK115; clear BK126; clear HB; have HO125 := n0_; have HO130 := n1_; have HO134 := n2_; have BK115 := n3_; have BK126 := n4_; have HB := n5_; clear n0_ n1_ n2_ n3_ n4_ n5_; (try clear hb); (try clear hb2); (try clear hk); (try clear hi); have hcz50_0 : w49.cell? ⟨gb126, 0, none⟩ = some (.bool t117) := (kC9 BK126.out 0).trans rfl; have hcz50_1 : w49.cell? ⟨gb126, 1, none⟩ = some (.slice Ao44 t127.length co44) := (kC9 BK126.out 1).trans rfl; have hcz50_2 : w49.cell? ⟨gb126, 2, none⟩ = some (.slice Ao47 t131.length co47) := (kC9 BK126.out 2).trans rfl; have hfz50_0 := kF9 BK126.out 0; have hfz50_1 := kF9 BK126.out 1; have hfz50_2 := kF9 BK126.out 2; have hcz51_0 : w49.cell? ⟨gb115, 0, none⟩ = some (.bool false) := (kC9 BK115.out 0).trans rfl; have hcz51_1 : w49.cell? ⟨gb115, 1, none⟩ = some (.slice none 0 0) := (kC9 BK115.out 1).trans rfl; have hcz51_2 : w49.cell? ⟨gb115, 2, none⟩ = some (.slice none 0 0) := (kC9 BK115.out 2).trans rfl; have hfz51_0 := kF9 BK115.out 0; have hfz51_1 := kF9 BK115.out 1; have hfz51_2 := kF9 BK115.out 2))
         refine bodyPost_ret (results_ct rfl _ _ gb115 31 #[.bool t117, .slice Ao44 t127.length co44, .slice Ao47 t131.length co47] (0, 0) _ rfl (by (with_reducible repeat (first | refine kN9 ?_ _ | refine kD9 ?_ | refine kA9 ?_ _)); refine kP9 (cs := #[.bool t117, .slice Ao44 t127.length co44, .slice none 0 0]) ?_ 2 _ rfl; (with_reducible repeat (first | refine kN9 ?_ _ | refine kD9 ?_ | refine kA9 ?_ _)); refine kP9 (cs := #[.bool t117, .slice none 0 0, .slice none 0 0]) ?_ 1 _ rfl; (with_reducible repeat (first | refine kN9 ?_ _ | refine kD9 ?_ | refine kA9 ?_ _)); refine kP9 (cs := #[.bool false, .slice none 0 0, .slice none 0 0]) ?_ 0 _ rfl; (with_reducible repeat (first | refine kN9 ?_ _ | refine kD9 ?_ | refine kA9 ?_ _)); exact BK115.out) Tryz.underlying31 rfl (by kernel_rfl)) rfl ?_
         exact ⟨_, _, by first | rfl | (simp [eN9, eS9] <;> rfl) | (simp [*, eN9, eS9] <;> rfl), by (with_reducible repeat (first | apply Kd.rA9 | apply Kd.rN9 | apply Kd.rD9)); exact Kd.R_mono (Kd.R_far (p := ⟨gb115, 2, none⟩) (Kd.R_far (p := ⟨gb115, 1, none⟩) (Kd.R_far (p := ⟨gb115, 0, none⟩) (Kd.rT9 HO130.out BK115.out (by decide)) (fun _ hk => hk.2) (.bool t117)) (fun _ hk => hk.2) (.slice Ao44 t127.length co44)) (fun _ hk => hk.2) (.slice Ao47 t131.length co47)) (fun _ hk => hk.1.2), by (with_reducible repeat (first | apply Kd.rA9 | apply Kd.rN9 | apply Kd.rD9)); exact Kd.R_mono (Kd.R_far (p := ⟨gb115, 2, none⟩) (Kd.R_far (p := ⟨gb115, 1, none⟩) (Kd.R_far (p := ⟨gb115, 0, none⟩) (Kd.rT9 HO134.out BK115.out (by decide)) (fun _ hk => hk.2) (.bool t117)) (fun _ hk => hk.2) (.slice Ao44 t127.length co44)) (fun _ hk => hk.2) (.slice Ao47 t131.length co47)) (fun _ hk => hk.1.2), by repeat (first | (with_reducible first | exact HB.out | apply bA9 | apply bN9 | apply bD9 | refine bS9 ?_ GE115.out | refine bS9 ?_ GE126.out) | exact HB.out)⟩
       ·rw [if_neg c23] at H
        have c23b0 : (t135 == 0) = false := beq_eq_false_iff_ne.mpr c23
        have c23b1 : (t135 != 0) = true := bne_iff_ne.mpr c23
        simp only [Option.some.injEq, Prod.mk.injEq] at H
        obtain ⟨rfl, rfl, rfl, rfl⟩ := H
        go_wp2_with (first | ((with_reducible refine gC9 (f := 34) rfl ?_); refine goesL_ (some 35) rfl rfl Tryz.func34 (by kernel_rfl) rfl #[.int .u64 1] rfl (by (try simp only [List.map_toArray, List.map_cons, List.map_nil]); first | done | rfl | (simp only [List.length_drop, List.length_take]; rfl)) ?_; (with_reducible refine (nat_Of.calls 1 t123 _ A16.out).mono ?_); rintro e w52 ⟨v124, rfl, ho0, hb⟩; refine ⟨_, rfl, ?_⟩; have n0_ := Aside0.mk (Kd.rL9 ho0 (bZ9 (by repeat (first | (with_reducible first | exact HB.out | apply bA9 | apply bN9 | apply bD9 | refine bS9 ?_ GE115.out) | exact HB.out)))); have n1_ := Aside0.mk (kB9 (g := gb115) (o := .cells #[.bool false, .slice none 0 0, .slice none 0 0] 31 (0, 0)) (by (with_reducible repeat (first | refine kN9 ?_ _ | refine kD9 ?_ | refine kA9 ?_ _)); exact BK115.out) hb); have n2_ := Aside0.mk (bT9 (by repeat (first | (with_reducible first | exact HB.out | apply bA9 | apply bN9 | apply bD9 | refine bS9 ?_ GE115.out) | exact HB.out)) hb); clear BK115; clear HB; have HO125 := n0_; have BK115 := n1_; have HB := n2_; clear n0_ n1_ n2_; (try clear hb); (try clear hb2); (try clear hk); (try clear hi); (try clear ho0); obtain ⟨Ao53, co53, eo53⟩ := Kd.rS9 HO125.out; subst eo53) | ((with_reducible refine gD9 (N := 9) rfl ?_); refine bE9 ?hg (N := 9) ?hd (cs := #[.bool false, .slice none 0 0, .slice none 0 0]) (t := 31) ?hr ?_; (case hd => rfl); (case hg => rfl); (case hr => first | (go_simp; done) | (go_simp; rfl)); intro gb126 hg w54 hbox hb; have n0_ := Aside0.mk (Kd.rB9 (by (with_reducible repeat (first | apply Kd.rA9 | apply Kd.rN9 | apply Kd.rD9)); exact HO125.out) hb); have n1_ := Aside0.mk (kB9 (g := gb115) (o := .cells #[.bool false, .slice none 0 0, .slice none 0 0] 31 (0, 0)) (by (with_reducible repeat (first | refine kN9 ?_ _ | refine kD9 ?_ | refine kA9 ?_ _)); exact BK115.out) hb); have n2_ := Aside0.mk (bT9 (by repeat (first | (with_reducible first | exact HB.out | apply bA9 | apply bN9 | apply bD9 | refine bS9 ?_ GE115.out) | exact HB.out)) hb); have n3_ := Aside0.mk (hbox); have n4_ := Aside0.mk ((by rw [hg]; exact (bZ9 (by repeat (first | (with_reducible first | exact HB.out | apply bA9 | apply bN9 | apply bD9 | refine bS9 ?_ GE115.out) | exact HB.out))) : w.heap.size ≤ gb126)); have n5_ := Aside0.mk ((by rw [hg]; exact (bZ9 (by repeat (first | (with_reducible first | exact HB.out | apply bA9 | apply bN9 | apply bD9 | refine bS9 ?_ GE115.out) | exact HB.out))) : w.heap.size ≤ gb126)); have n6_ := Aside0.mk ((by rw [hg]; exact Nat.ne_of_lt (blk_lt (g := gb115) (o := .cells #[.bool false, .slice none 0 0, .slice none 0 0] 31 (0, 0)) (by (with_reducible repeat (first | refine kN9 ?_ _ | refine kD9 ?_ | refine kA9 ?_ _)); exact BK115.out)) : gb115 ≠ gb126)); have n7_ := Aside0.mk ((by rw [hg]; exact Nat.ne_of_gt (blk_lt (g := gb115) (o := .cells #[.bool false, .slice none 0 0, .slice none 0 0] 31 (0, 0)) (by (with_reducible repeat (first | refine kN9 ?_ _ | refine kD9 ?_ | refine kA9 ?_ _)); exact BK115.out)) : gb126 ≠ gb115)); clear HO125; clear BK115; clear HB; have HO125 := n0_; have BK115 := n1_; have HB := n2_; have BK126 := n3_; have GW126 := n4_; have GE126 := n5_; have NB115_126 := n6_; have NB126_115 := n7_; clear n0_ n1_ n2_ n3_ n4_ n5_ n6_ n7_; clear hb hbox hg; have hnb55 := NB126_115.out; have hnc55 := NB115_126.out; have hcz56_0 : w54.cell? ⟨gb126, 0, none⟩ = some (.bool false) := (kC9 BK126.out 0).trans rfl; have hcz56_1 : w54.cell? ⟨gb126, 1, none⟩ = some (.slice none 0 0) := (kC9 BK126.out 1).trans rfl; have hcz56_2 : w54.cell? ⟨gb126, 2, none⟩ = some (.slice none 0 0) := (kC9 BK126.out 2).trans rfl; have hfz56_0 := kF9 BK126.out 0; have hfz56_1 := kF9 BK126.out 1; have hfz56_2 := kF9 BK126.out 2) | ((with_reducible refine gC9 (f := 43) rfl ?_); refine goesL_ (some 39) rfl rfl Tryz.func43 (by kernel_rfl) rfl #[.string t118] rfl (by (try simp only [List.map_toArray, List.map_cons, List.map_nil]); first | done | rfl | (simp only [List.length_drop, List.length_take]; rfl)) ?_; (with_reducible refine (digits_read.calls t118 t127 t128 _ A17.out).mono ?_); rintro e w57 ⟨v129, rfl, ho0, hb⟩; refine ⟨_, rfl, ?_⟩; have n0_ := Aside0.mk (Kd.R_elder' (by (with_reducible repeat (first | apply Kd.rA9 | apply Kd.rN9 | apply Kd.rD9)); exact (Kd.R_mono (Kd.R_far (p := ⟨gb126, 2, none⟩) (Kd.R_far (p := ⟨gb126, 1, none⟩) (Kd.R_far (p := ⟨gb126, 0, none⟩) (Kd.rT9 HO125.out BK126.out (by decide)) (fun _ hk => hk.2) (.bool t117)) (fun _ hk => hk.2) (.slice none 0 0)) (fun _ hk => hk.2) (.slice Ao53 t123.length co53)) (fun _ h_ => h_.1))) (Kd.R_base ho0) hb); have n1_ := Aside0.mk (Kd.rL9 (Kd.R_new' ho0 (Kd.R_lt (by (with_reducible repeat (first | apply Kd.rA9 | apply Kd.rN9 | apply Kd.rD9)); exact (Kd.R_mono (Kd.R_far (p := ⟨gb126, 2, none⟩) (Kd.R_far (p := ⟨gb126, 1, none⟩) (Kd.R_far (p := ⟨gb126, 0, none⟩) (Kd.rT9 HO125.out BK126.out (by decide)) (fun _ hk => hk.2) (.bool t117)) (fun _ hk => hk.2) (.slice none 0 0)) (fun _ hk => hk.2) (.slice Ao53 t123.length co53)) (fun _ h_ => h_.1))))) (bZ9 (by repeat (first | (with_reducible first | exact HB.out | apply bA9 | apply bN9 | apply bD9 | refine bS9 ?_ GE115.out | refine bS9 ?_ GE126.out) | exact HB.out)))); have n2_ := Aside0.mk (kB9 (g := gb115) (o := .cells #[.bool false, .slice none 0 0, .slice none 0 0] 31 (0, 0)) (by (with_reducible repeat (first | refine kN9 ?_ _ | refine kD9 ?_ | refine kA9 ?_ _)); refine blk_far ?_ NB115_126.out _; (with_reducible repeat (first | refine kN9 ?_ _ | refine kD9 ?_ | refine kA9 ?_ _)); refine blk_far ?_ NB115_126.out _; (with_reducible repeat (first | refine kN9 ?_ _ | refine kD9 ?_ | refine kA9 ?_ _)); refine blk_far ?_ NB115_126.out _; (with_reducible repeat (first | refine kN9 ?_ _ | refine kD9 ?_ | refine kA9 ?_ _)); exact BK115.out) hb); have n3_ := Aside0.mk (kB9 (g := gb126) (o := .cells #[.bool t117, .slice none 0 0, .slice Ao53 t123.length co53] 31 (0, 0)) (by (with_reducible repeat (first | refine kN9 ?_ _ | refine kD9 ?_ | refine kA9 ?_ _)); refine kP9 (cs := #[.bool t117, .slice none 0 0, .slice none 0 0]) ?_ 2 _ rfl; (with_reducible repeat (first | refine kN9 ?_ _ | refine kD9 ?_ | refine kA9 ?_ _)); refine kP9 (cs := #[.bool t117, .slice none 0 0, .slice none 0 0]) ?_ 1 _ rfl; (with_reducible repeat (first | refine kN9 ?_ _ | refine kD9 ?_ | refine kA9 ?_ _)); refine kP9 (cs := #[.bool false, .slice none 0 0, .slice none 0 0]) ?_ 0 _ rfl; (with_reducible repeat (first | refine kN9 ?_ _ | refine kD9 ?_ | refine kA9 ?_ _)); exact BK126.out) hb); have n4_ := Aside0.mk (bT9 (by repeat (first | (with_reducible first | exact HB.out | apply bA9 | apply bN9 | apply bD9 | refine bS9 ?_ GE115.out | refine bS9 ?_ GE126.out) | exact HB.out)) hb); clear HO125; clear BK115; clear BK126; clear HB; have HO125 := n0_; have HO130 := n1_; have BK115 := n2_; have BK126 := n3_; have HB := n4_; clear n0_ n1_ n2_ n3_ n4_; (try clear hb); (try clear hb2); (try clear hk); (try clear hi); (try clear ho0); obtain ⟨Ao58, co58, eo58⟩ := Kd.rS9 HO130.out; subst eo58; have hcz59_0 : w57.cell? ⟨gb126, 0, none⟩ = some (.bool t117) := (kC9 BK126.out 0).trans rfl; have hcz59_1 : w57.cell? ⟨gb126, 1, none⟩ = some (.slice none 0 0) := (kC9 BK126.out 1).trans rfl; have hcz59_2 : w57.cell? ⟨gb126, 2, none⟩ = some (.slice Ao53 t123.length co53) := (kC9 BK126.out 2).trans rfl; have hfz59_0 := kF9 BK126.out 0; have hfz59_1 := kF9 BK126.out 1; have hfz59_2 := kF9 BK126.out 2) | ((with_reducible refine gC9 (f := 43) rfl ?_); refine goesL_ (some 50) rfl rfl Tryz.func43 (by kernel_rfl) rfl #[.string t119] rfl (by (try simp only [List.map_toArray, List.map_cons, List.map_nil]); first | done | rfl | (simp only [List.length_drop, List.length_take]; rfl)) ?_; (with_reducible refine (digits_read.calls t119 t131 t132 _ A20.out).mono ?_); rintro e w60 ⟨v133, rfl, ho0, hb⟩; refine ⟨_, rfl, ?_⟩; have n0_ := Aside0.mk (Kd.R_elder' (by (with_reducible repeat (first | apply Kd.rA9 | apply Kd.rN9 | apply Kd.rD9)); exact (Kd.R_mono (Kd.R_far (p := ⟨gb126, 1, none⟩) (Kd.rT9 HO125.out BK126.out (by decide)) (fun _ hk => hk.2) (.slice Ao58 t127.length co58)) (fun _ h_ => h_.1))) (Kd.R_base ho0) hb); have n1_ := Aside0.mk (Kd.R_elder' (by (with_reducible repeat (first | apply Kd.rA9 | apply Kd.rN9 | apply Kd.rD9)); exact (Kd.R_mono (Kd.R_far (p := ⟨gb126, 1, none⟩) (Kd.rT9 HO130.out BK126.out (by decide)) (fun _ hk => hk.2) (.slice Ao58 t127.length co58)) (fun _ h_ => h_.1))) (Kd.R_base ho0) hb); have n2_ := Aside0.mk (Kd.rL9 (Kd.R_new' (Kd.R_new' ho0 (Kd.R_lt (by (with_reducible repeat (first | apply Kd.rA9 | apply Kd.rN9 | apply Kd.rD9)); exact (Kd.R_mono (Kd.R_far (p := ⟨gb126, 1, none⟩) (Kd.rT9 HO125.out BK126.out (by decide)) (fun _ hk => hk.2) (.slice Ao58 t127.length co58)) (fun _ h_ => h_.1))))) (Kd.R_lt (by (with_reducible repeat (first | apply Kd.rA9 | apply Kd.rN9 | apply Kd.rD9)); exact (Kd.R_mono (Kd.R_far (p := ⟨gb126, 1, none⟩) (Kd.rT9 HO130.out BK126.out (by decide)) (fun _ hk => hk.2) (.slice Ao58 t127.length co58)) (fun _ h_ => h_.1))))) (bZ9 (by repeat (first | (with_reducible first | exact HB.out | apply bA9 | apply bN9 | apply bD9 | refine bS9 ?_ GE115.out | refine bS9 ?_ GE126.out) | exact HB.out)))); have n3_ := Aside0.mk (kB9 (g := gb115) (o := .cells #[.bool false, .slice none 0 0, .slice none 0 0] 31 (0, 0)) (by (with_reducible repeat (first | refine kN9 ?_ _ | refine kD9 ?_ | refine kA9 ?_ _)); refine blk_far ?_ NB115_126.out _; (with_reducible repeat (first | refine kN9 ?_ _ | refine kD9 ?_ | refine kA9 ?_ _)); exact BK115.out) hb); have n4_ := Aside0.mk (kB9 (g := gb126) (o := .cells #[.bool t117, .slice Ao58 t127.length co58, .slice Ao53 t123.length co53] 31 (0, 0)) (by (with_reducible repeat (first | refine kN9 ?_ _ | refine kD9 ?_ | refine kA9 ?_ _)); refine kP9 (cs := #[.bool t117, .slice none 0 0, .slice Ao53 t123.length co53]) ?_ 1 _ rfl; (with_reducible repeat (first | refine kN9 ?_ _ | refine kD9 ?_ | refine kA9 ?_ _)); exact BK126.out) hb); have n5_ := Aside0.mk (bT9 (by repeat (first | (with_reducible first | exact HB.out | apply bA9 | apply bN9 | apply bD9 | refine bS9 ?_ GE115.out | refine bS9 ?_ GE126.out) | exact HB.out)) hb); clear HO125; clear HO130; clear BK115; clear BK126; clear HB; have HO125 := n0_; have HO130 := n1_; have HO134 := n2_; have BK115 := n3_; have BK126 := n4_; have HB := n5_; clear n0_ n1_ n2_ n3_ n4_ n5_; (try clear hb); (try clear hb2); (try clear hk); (try clear hi); (try clear ho0); obtain ⟨Ao61, co61, eo61⟩ := Kd.rS9 HO134.out; subst eo61; have hcz62_0 : w60.cell? ⟨gb126, 0, none⟩ = some (.bool t117) := (kC9 BK126.out 0).trans rfl; have hcz62_1 : w60.cell? ⟨gb126, 1, none⟩ = some (.slice Ao58 t127.length co58) := (kC9 BK126.out 1).trans rfl; have hcz62_2 : w60.cell? ⟨gb126, 2, none⟩ = some (.slice Ao53 t123.length co53) := (kC9 BK126.out 2).trans rfl; have hfz62_0 := kF9 BK126.out 0; have hfz62_1 := kF9 BK126.out 1; have hfz62_2 := kF9 BK126.out 2) | ((with_reducible refine gC9 (f := 44) rfl ?_); refine goesL_ (some 59) rfl rfl Tryz.func44 (by kernel_rfl) rfl #[.agg #[.bool t117, .slice Ao58 t127.length co58, .slice Ao61 t131.length co61]] rfl (by (try simp only [List.map_toArray, List.map_cons, List.map_nil]); first | done | rfl | (simp only [List.length_drop, List.length_take]; rfl)) ?_; (with_reducible refine (rat_May.calls t117 _ _ t127 _ _ t131 t135 _ ?side1 ?side2 ?side3 ?side4 A22.out).mono ?_); (case side1 => refine (Kd.rR9 (e := 88) (base := w.heap.size) (ok := fun k_ => ((True ∧ some k_ ≠ (.slice Ao53 t123.length co53 : Value).ownBlock) ∧ some k_ ≠ (.slice Ao61 t131.length co61 : Value).ownBlock)) (n := t127.length) (c := co58) ?_).2.2; exact (by (with_reducible repeat (first | apply Kd.rA9 | apply Kd.rN9 | apply Kd.rD9)); exact (Kd.R_mono (Kd.R_far (p := ⟨gb126, 2, none⟩) (Kd.rT9 HO130.out BK126.out (by decide)) (fun _ hk => hk.2) (.slice Ao61 t131.length co61)) (fun _ h_ => h_.1)))); (case side2 => exact (Kd.rR9 HO130.out).2.1); (case side3 => refine (Kd.rR9 (e := 88) (base := w.heap.size) (ok := fun k_ => ((True ∧ some k_ ≠ (.slice Ao53 t123.length co53 : Value).ownBlock) ∧ some k_ ≠ (.slice Ao58 t127.length co58 : Value).ownBlock)) (n := t131.length) (c := co61) ?_).2.2; exact (by (with_reducible repeat (first | apply Kd.rA9 | apply Kd.rN9 | apply Kd.rD9)); exact (Kd.R_mono (Kd.R_far (p := ⟨gb126, 2, none⟩) (Kd.rT9 HO134.out BK126.out (by decide)) (fun _ hk => hk.2) (.slice Ao61 t131.length co61)) (fun _ h_ => h_.1)))); (case side4 => exact (Kd.rR9 HO134.out).2.1); rintro e w63 ⟨rfl, hb⟩; refine ⟨_, rfl, ?_⟩; have n0_ := Aside0.mk (Kd.rB9 (by (with_reducible repeat (first | apply Kd.rA9 | apply Kd.rN9 | apply Kd.rD9)); exact (Kd.R_mono (Kd.R_far (p := ⟨gb126, 2, none⟩) (Kd.rT9 HO125.out BK126.out (by decide)) (fun _ hk => hk.2) (.slice Ao61 t131.length co61)) (fun _ h_ => h_.1))) hb); have n1_ := Aside0.mk (Kd.rB9 (by (with_reducible repeat (first | apply Kd.rA9 | apply Kd.rN9 | apply Kd.rD9)); exact (Kd.R_mono (Kd.R_far (p := ⟨gb126, 2, none⟩) (Kd.rT9 HO130.out BK126.out (by decide)) (fun _ hk => hk.2) (.slice Ao61 t131.length co61)) (fun _ h_ => h_.1))) hb); have n2_ := Aside0.mk (Kd.rB9 (by (with_reducible repeat (first | apply Kd.rA9 | apply Kd.rN9 | apply Kd.rD9)); exact (Kd.R_mono (Kd.R_far (p := ⟨gb126, 2, none⟩) (Kd.rT9 HO134.out BK126.out (by decide)) (fun _ hk => hk.2) (.slice Ao61 t131.length co61)) (fun _ h_ => h_.1))) hb); have n3_ := Aside0.mk (kB9 (g := gb115) (o := .cells #[.bool false, .slice none 0 0, .slice none 0 0] 31 (0, 0)) (by (with_reducible repeat (first | refine kN9 ?_ _ | refine kD9 ?_ | refine kA9 ?_ _)); refine blk_far ?_ NB115_126.out _; (with_reducible repeat (first | refine kN9 ?_ _ | refine kD9 ?_ | refine kA9 ?_ _)); exact BK115.out) hb); have n4_ := Aside0.mk (kB9 (g := gb126) (o := .cells #[.bool t117, .slice Ao58 t127.length co58, .slice Ao61 t131.length co61] 31 (0, 0)) (by (with_reducible repeat (first | refine kN9 ?_ _ | refine kD9 ?_ | refine kA9 ?_ _)); refine kP9 (cs := #[.bool t117, .slice Ao58 t127.length co58, .slice Ao53 t123.length co53]) ?_ 2 _ rfl; (with_reducible repeat (first | refine kN9 ?_ _ | refine kD9 ?_ | refine kA9 ?_ _)); exact BK126.out) hb); have n5_ := Aside0.mk (bT9 (by repeat (first | (with_reducible first | exact HB.out | apply bA9 | apply bN9 | apply bD9 | refine bS9 ?_ GE115.out | refine bS9 ?_ GE126.out) | exact HB.out)) hb); clear HO125; clear HO130; clear HO134; clear BK115; clear BK126; clear HB; have HO125 := n0_; have HO130 := n1_; have HO134 := n2_; have BK115 := n3_; have BK126 := n4_; have HB := n5_; clear n0_ n1_ n2_ n3_ n4_ n5_; (try clear hb); (try clear hb2); (try clear hk); (try clear hi); have hcz64_0 : w63.cell? ⟨gb115, 0, none⟩ = some (.bool false) := (kC9 BK115.out 0).trans rfl; have hcz64_1 : w63.cell? ⟨gb115, 1, none⟩ = some (.slice none 0 0) := (kC9 BK115.out 1).trans rfl; have hcz64_2 : w63.cell? ⟨gb115, 2, none⟩ = some (.slice none 0 0) := (kC9 BK115.out 2).trans rfl; have hfz64_0 := kF9 BK115.out 0; have hfz64_1 := kF9 BK115.out 1; have hfz64_2 := kF9 BK115.out 2))
        refine bodyPost_ret (results_ct rfl _ _ gb115 31 #[.bool false, .slice none 0 0, .slice none 0 0] (0, 0) _ rfl (by (with_reducible repeat (first | refine kN9 ?_ _ | refine kD9 ?_ | refine kA9 ?_ _)); refine kP9 (cs := #[.bool false, .slice none 0 0, .slice none 0 0]) ?_ 2 _ rfl; (with_reducible repeat (first | refine kN9 ?_ _ | refine kD9 ?_ | refine kA9 ?_ _)); refine kP9 (cs := #[.bool false, .slice none 0 0, .slice none 0 0]) ?_ 1 _ rfl; (with_reducible repeat (first | refine kN9 ?_ _ | refine kD9 ?_ | refine kA9 ?_ _)); refine kP9 (cs := #[.bool false, .slice none 0 0, .slice none 0 0]) ?_ 0 _ rfl; (with_reducible repeat (first | refine kN9 ?_ _ | refine kD9 ?_ | refine kA9 ?_ _)); exact BK115.out) Tryz.underlying31 rfl (by kernel_rfl)) rfl ?_
        exact ⟨_, _, by first | rfl | (simp [eN9, eS9] <;> rfl) | (simp [*, eN9, eS9] <;> rfl), by first | exact Kd.R_nil _ _ _ _ _ | exact Kd.N_nil _ _ _ _ _ | exact Kd.V_nil _ _ _ _ _ | exact Kd.Q_nil _ _ _ _ _ | exact Kd.S_nil _ _ _ _ _, by first | exact Kd.R_nil _ _ _ _ _ | exact Kd.N_nil _ _ _ _ _ | exact Kd.V_nil _ _ _ _ _ | exact Kd.Q_nil _ _ _ _ _ | exact Kd.S_nil _ _ _ _ _, by repeat (first | (with_reducible first | exact HB.out | apply bA9 | apply bN9 | apply bD9 | refine bS9 ?_ GE115.out | refine bS9 ?_ GE126.out) | exact HB.out)⟩
      ·rw [if_neg c21] at H
       have c21b0 : (t132 == 0) = false := beq_eq_false_iff_ne.mpr c21
       have c21b1 : (t132 != 0) = true := bne_iff_ne.mpr c21
       simp only [Option.some.injEq, Prod.mk.injEq] at H
       obtain ⟨rfl, rfl, rfl, rfl⟩ := H
       go_wp2_with (first | ((with_reducible refine gC9 (f := 34) rfl ?_); refine goesL_ (some 35) rfl rfl Tryz.func34 (by kernel_rfl) rfl #[.int .u64 1] rfl (by (try simp only [List.map_toArray, List.map_cons, List.map_nil]); first | done | rfl | (simp only [List.length_drop, List.length_take]; rfl)) ?_; (with_reducible refine (nat_Of.calls 1 t123 _ A16.out).mono ?_); rintro e w65 ⟨v124, rfl, ho0, hb⟩; refine ⟨_, rfl, ?_⟩; have n0_ := Aside0.mk (Kd.rL9 ho0 (bZ9 (by repeat (first | (with_reducible first | exact HB.out | apply bA9 | apply bN9 | apply bD9 | refine bS9 ?_ GE115.out) | exact HB.out)))); have n1_ := Aside0.mk (kB9 (g := gb115) (o := .cells #[.bool false, .slice none 0 0, .slice none 0 0] 31 (0, 0)) (by (with_reducible repeat (first | refine kN9 ?_ _ | refine kD9 ?_ | refine kA9 ?_ _)); exact BK115.out) hb); have n2_ := Aside0.mk (bT9 (by repeat (first | (with_reducible first | exact HB.out | apply bA9 | apply bN9 | apply bD9 | refine bS9 ?_ GE115.out) | exact HB.out)) hb); clear BK115; clear HB; have HO125 := n0_; have BK115 := n1_; have HB := n2_; clear n0_ n1_ n2_; (try clear hb); (try clear hb2); (try clear hk); (try clear hi); (try clear ho0); obtain ⟨Ao66, co66, eo66⟩ := Kd.rS9 HO125.out; subst eo66) | ((with_reducible refine gD9 (N := 9) rfl ?_); refine bE9 ?hg (N := 9) ?hd (cs := #[.bool false, .slice none 0 0, .slice none 0 0]) (t := 31) ?hr ?_; (case hd => rfl); (case hg => rfl); (case hr => first | (go_simp; done) | (go_simp; rfl)); intro gb126 hg w67 hbox hb; have n0_ := Aside0.mk (Kd.rB9 (by (with_reducible repeat (first | apply Kd.rA9 | apply Kd.rN9 | apply Kd.rD9)); exact HO125.out) hb); have n1_ := Aside0.mk (kB9 (g := gb115) (o := .cells #[.bool false, .slice none 0 0, .slice none 0 0] 31 (0, 0)) (by (with_reducible repeat (first | refine kN9 ?_ _ | refine kD9 ?_ | refine kA9 ?_ _)); exact BK115.out) hb); have n2_ := Aside0.mk (bT9 (by repeat (first | (with_reducible first | exact HB.out | apply bA9 | apply bN9 | apply bD9 | refine bS9 ?_ GE115.out) | exact HB.out)) hb); have n3_ := Aside0.mk (hbox); have n4_ := Aside0.mk ((by rw [hg]; exact (bZ9 (by repeat (first | (with_reducible first | exact HB.out | apply bA9 | apply bN9 | apply bD9 | refine bS9 ?_ GE115.out) | exact HB.out))) : w.heap.size ≤ gb126)); have n5_ := Aside0.mk ((by rw [hg]; exact (bZ9 (by repeat (first | (with_reducible first | exact HB.out | apply bA9 | apply bN9 | apply bD9 | refine bS9 ?_ GE115.out) | exact HB.out))) : w.heap.size ≤ gb126)); have n6_ := Aside0.mk ((by rw [hg]; exact Nat.ne_of_lt (blk_lt (g := gb115) (o := .cells #[.bool false, .slice none 0 0, .slice none 0 0] 31 (0, 0)) (by (with_reducible repeat (first | refine kN9 ?_ _ | refine kD9 ?_ | refine kA9 ?_ _)); exact BK115.out)) : gb115 ≠ gb126)); have n7_ := Aside0.mk ((by rw [hg]; exact Nat.ne_of_gt (blk_lt (g := gb115) (o := .cells #[.bool false, .slice none 0 0, .slice none 0 0] 31 (0, 0)) (by (with_reducible repeat (first | refine kN9 ?_ _ | refine kD9 ?_ | refine kA9 ?_ _)); exact BK115.out)) : gb126 ≠ gb115)); clear HO125; clear BK115; clear HB; have HO125 := n0_; have BK115 := n1_; have HB := n2_; have BK126 := n3_; have GW126 := n4_; have GE126 := n5_; have NB115_126 := n6_; have NB126_115 := n7_; clear n0_ n1_ n2_ n3_ n4_ n5_ n6_ n7_; clear hb hbox hg; have hnb68 := NB126_115.out; have hnc68 := NB115_126.out; have hcz69_0 : w67.cell? ⟨gb126, 0, none⟩ = some (.bool false) := (kC9 BK126.out 0).trans rfl; have hcz69_1 : w67.cell? ⟨gb126, 1, none⟩ = some (.slice none 0 0) := (kC9 BK126.out 1).trans rfl; have hcz69_2 : w67.cell? ⟨gb126, 2, none⟩ = some (.slice none 0 0) := (kC9 BK126.out 2).trans rfl; have hfz69_0 := kF9 BK126.out 0; have hfz69_1 := kF9 BK126.out 1; have hfz69_2 := kF9 BK126.out 2) | ((with_reducible refine gC9 (f := 43) rfl ?_); refine goesL_ (some 39) rfl rfl Tryz.func43 (by kernel_rfl) rfl #[.string t118] rfl (by (try simp only [List.map_toArray, List.map_cons, List.map_nil]); first | done | rfl | (simp only [List.length_drop, List.length_take]; rfl)) ?_; (with_reducible refine (digits_read.calls t118 t127 t128 _ A17.out).mono ?_); rintro e w70 ⟨v129, rfl, ho0, hb⟩; refine ⟨_, rfl, ?_⟩; have n0_ := Aside0.mk (Kd.R_elder' (by (with_reducible repeat (first | apply Kd.rA9 | apply Kd.rN9 | apply Kd.rD9)); exact (Kd.R_mono (Kd.R_far (p := ⟨gb126, 2, none⟩) (Kd.R_far (p := ⟨gb126, 1, none⟩) (Kd.R_far (p := ⟨gb126, 0, none⟩) (Kd.rT9 HO125.out BK126.out (by decide)) (fun _ hk => hk.2) (.bool t117)) (fun _ hk => hk.2) (.slice none 0 0)) (fun _ hk => hk.2) (.slice Ao66 t123.length co66)) (fun _ h_ => h_.1))) (Kd.R_base ho0) hb); have n1_ := Aside0.mk (Kd.rL9 (Kd.R_new' ho0 (Kd.R_lt (by (with_reducible repeat (first | apply Kd.rA9 | apply Kd.rN9 | apply Kd.rD9)); exact (Kd.R_mono (Kd.R_far (p := ⟨gb126, 2, none⟩) (Kd.R_far (p := ⟨gb126, 1, none⟩) (Kd.R_far (p := ⟨gb126, 0, none⟩) (Kd.rT9 HO125.out BK126.out (by decide)) (fun _ hk => hk.2) (.bool t117)) (fun _ hk => hk.2) (.slice none 0 0)) (fun _ hk => hk.2) (.slice Ao66 t123.length co66)) (fun _ h_ => h_.1))))) (bZ9 (by repeat (first | (with_reducible first | exact HB.out | apply bA9 | apply bN9 | apply bD9 | refine bS9 ?_ GE115.out | refine bS9 ?_ GE126.out) | exact HB.out)))); have n2_ := Aside0.mk (kB9 (g := gb115) (o := .cells #[.bool false, .slice none 0 0, .slice none 0 0] 31 (0, 0)) (by (with_reducible repeat (first | refine kN9 ?_ _ | refine kD9 ?_ | refine kA9 ?_ _)); refine blk_far ?_ NB115_126.out _; (with_reducible repeat (first | refine kN9 ?_ _ | refine kD9 ?_ | refine kA9 ?_ _)); refine blk_far ?_ NB115_126.out _; (with_reducible repeat (first | refine kN9 ?_ _ | refine kD9 ?_ | refine kA9 ?_ _)); refine blk_far ?_ NB115_126.out _; (with_reducible repeat (first | refine kN9 ?_ _ | refine kD9 ?_ | refine kA9 ?_ _)); exact BK115.out) hb); have n3_ := Aside0.mk (kB9 (g := gb126) (o := .cells #[.bool t117, .slice none 0 0, .slice Ao66 t123.length co66] 31 (0, 0)) (by (with_reducible repeat (first | refine kN9 ?_ _ | refine kD9 ?_ | refine kA9 ?_ _)); refine kP9 (cs := #[.bool t117, .slice none 0 0, .slice none 0 0]) ?_ 2 _ rfl; (with_reducible repeat (first | refine kN9 ?_ _ | refine kD9 ?_ | refine kA9 ?_ _)); refine kP9 (cs := #[.bool t117, .slice none 0 0, .slice none 0 0]) ?_ 1 _ rfl; (with_reducible repeat (first | refine kN9 ?_ _ | refine kD9 ?_ | refine kA9 ?_ _)); refine kP9 (cs := #[.bool false, .slice none 0 0, .slice none 0 0]) ?_ 0 _ rfl; (with_reducible repeat (first | refine kN9 ?_ _ | refine kD9 ?_ | refine kA9 ?_ _)); exact BK126.out) hb); have n4_ := Aside0.mk (bT9 (by repeat (first | (with_reducible first | exact HB.out | apply bA9 | apply bN9 | apply bD9 | refine bS9 ?_ GE115.out | refine bS9 ?_ GE126.out) | exact HB.out)) hb); clear HO125; clear BK115; clear BK126; clear HB; have HO125 := n0_; have HO130 := n1_; have BK115 := n2_; have BK126 := n3_; have HB := n4_; clear n0_ n1_ n2_ n3_ n4_; (try clear hb); (try clear hb2); (try clear hk); (try clear hi); (try clear ho0); obtain ⟨Ao71, co71, eo71⟩ := Kd.rS9 HO130.out; subst eo71; have hcz72_0 : w70.cell? ⟨gb126, 0, none⟩ = some (.bool t117) := (kC9 BK126.out 0).trans rfl; have hcz72_1 : w70.cell? ⟨gb126, 1, none⟩ = some (.slice none 0 0) := (kC9 BK126.out 1).trans rfl; have hcz72_2 : w70.cell? ⟨gb126, 2, none⟩ = some (.slice Ao66 t123.length co66) := (kC9 BK126.out 2).trans rfl; have hfz72_0 := kF9 BK126.out 0; have hfz72_1 := kF9 BK126.out 1; have hfz72_2 := kF9 BK126.out 2) | ((with_reducible refine gC9 (f := 43) rfl ?_); refine goesL_ (some 50) rfl rfl Tryz.func43 (by kernel_rfl) rfl #[.string t119] rfl (by (try simp only [List.map_toArray, List.map_cons, List.map_nil]); first | done | rfl | (simp only [List.length_drop, List.length_take]; rfl)) ?_; (with_reducible refine (digits_read.calls t119 t131 t132 _ A20.out).mono ?_); rintro e w73 ⟨v133, rfl, ho0, hb⟩; refine ⟨_, rfl, ?_⟩; have n0_ := Aside0.mk (Kd.R_elder' (by (with_reducible repeat (first | apply Kd.rA9 | apply Kd.rN9 | apply Kd.rD9)); exact (Kd.R_mono (Kd.R_far (p := ⟨gb126, 1, none⟩) (Kd.rT9 HO125.out BK126.out (by decide)) (fun _ hk => hk.2) (.slice Ao71 t127.length co71)) (fun _ h_ => h_.1))) (Kd.R_base ho0) hb); have n1_ := Aside0.mk (Kd.R_elder' (by (with_reducible repeat (first | apply Kd.rA9 | apply Kd.rN9 | apply Kd.rD9)); exact (Kd.R_mono (Kd.R_far (p := ⟨gb126, 1, none⟩) (Kd.rT9 HO130.out BK126.out (by decide)) (fun _ hk => hk.2) (.slice Ao71 t127.length co71)) (fun _ h_ => h_.1))) (Kd.R_base ho0) hb); have n2_ := Aside0.mk (Kd.rL9 (Kd.R_new' (Kd.R_new' ho0 (Kd.R_lt (by (with_reducible repeat (first | apply Kd.rA9 | apply Kd.rN9 | apply Kd.rD9)); exact (Kd.R_mono (Kd.R_far (p := ⟨gb126, 1, none⟩) (Kd.rT9 HO125.out BK126.out (by decide)) (fun _ hk => hk.2) (.slice Ao71 t127.length co71)) (fun _ h_ => h_.1))))) (Kd.R_lt (by (with_reducible repeat (first | apply Kd.rA9 | apply Kd.rN9 | apply Kd.rD9)); exact (Kd.R_mono (Kd.R_far (p := ⟨gb126, 1, none⟩) (Kd.rT9 HO130.out BK126.out (by decide)) (fun _ hk => hk.2) (.slice Ao71 t127.length co71)) (fun _ h_ => h_.1))))) (bZ9 (by repeat (first | (with_reducible first | exact HB.out | apply bA9 | apply bN9 | apply bD9 | refine bS9 ?_ GE115.out | refine bS9 ?_ GE126.out) | exact HB.out)))); have n3_ := Aside0.mk (kB9 (g := gb115) (o := .cells #[.bool false, .slice none 0 0, .slice none 0 0] 31 (0, 0)) (by (with_reducible repeat (first | refine kN9 ?_ _ | refine kD9 ?_ | refine kA9 ?_ _)); refine blk_far ?_ NB115_126.out _; (with_reducible repeat (first | refine kN9 ?_ _ | refine kD9 ?_ | refine kA9 ?_ _)); exact BK115.out) hb); have n4_ := Aside0.mk (kB9 (g := gb126) (o := .cells #[.bool t117, .slice Ao71 t127.length co71, .slice Ao66 t123.length co66] 31 (0, 0)) (by (with_reducible repeat (first | refine kN9 ?_ _ | refine kD9 ?_ | refine kA9 ?_ _)); refine kP9 (cs := #[.bool t117, .slice none 0 0, .slice Ao66 t123.length co66]) ?_ 1 _ rfl; (with_reducible repeat (first | refine kN9 ?_ _ | refine kD9 ?_ | refine kA9 ?_ _)); exact BK126.out) hb); have n5_ := Aside0.mk (bT9 (by repeat (first | (with_reducible first | exact HB.out | apply bA9 | apply bN9 | apply bD9 | refine bS9 ?_ GE115.out | refine bS9 ?_ GE126.out) | exact HB.out)) hb); clear HO125; clear HO130; clear BK115; clear BK126; clear HB; have HO125 := n0_; have HO130 := n1_; have HO134 := n2_; have BK115 := n3_; have BK126 := n4_; have HB := n5_; clear n0_ n1_ n2_ n3_ n4_ n5_; (try clear hb); (try clear hb2); (try clear hk); (try clear hi); (try clear ho0); obtain ⟨Ao74, co74, eo74⟩ := Kd.rS9 HO134.out; subst eo74; have hcz75_0 : w73.cell? ⟨gb126, 0, none⟩ = some (.bool t117) := (kC9 BK126.out 0).trans rfl; have hcz75_1 : w73.cell? ⟨gb126, 1, none⟩ = some (.slice Ao71 t127.length co71) := (kC9 BK126.out 1).trans rfl; have hcz75_2 : w73.cell? ⟨gb126, 2, none⟩ = some (.slice Ao66 t123.length co66) := (kC9 BK126.out 2).trans rfl; have hfz75_0 := kF9 BK126.out 0; have hfz75_1 := kF9 BK126.out 1; have hfz75_2 := kF9 BK126.out 2; have hcz76_0 : w73.cell? ⟨gb115, 0, none⟩ = some (.bool false) := (kC9 BK115.out 0).trans rfl; have hcz76_1 : w73.cell? ⟨gb115, 1, none⟩ = some (.slice none 0 0) := (kC9 BK115.out 1).trans rfl; have hcz76_2 : w73.cell? ⟨gb115, 2, none⟩ = some (.slice none 0 0) := (kC9 BK115.out 2).trans rfl; have hfz76_0 := kF9 BK115.out 0; have hfz76_1 := kF9 BK115.out 1; have hfz76_2 := kF9 BK115.out 2))
       refine bodyPost_ret (results_ct rfl _ _ gb115 31 #[.bool false, .slice none 0 0, .slice none 0 0] (0, 0) _ rfl (by (with_reducible repeat (first | refine kN9 ?_ _ | refine kD9 ?_ | refine kA9 ?_ _)); refine kP9 (cs := #[.bool false, .slice none 0 0, .slice none 0 0]) ?_ 2 _ rfl; (with_reducible repeat (first | refine kN9 ?_ _ | refine kD9 ?_ | refine kA9 ?_ _)); refine kP9 (cs := #[.bool false, .slice none 0 0, .slice none 0 0]) ?_ 1 _ rfl; (with_reducible repeat (first | refine kN9 ?_ _ | refine kD9 ?_ | refine kA9 ?_ _)); refine kP9 (cs := #[.bool false, .slice none 0 0, .slice none 0 0]) ?_ 0 _ rfl; (with_reducible repeat (first | refine kN9 ?_ _ | refine kD9 ?_ | refine kA9 ?_ _)); refine blk_far ?_ NB115_126.out _; (with_reducible repeat (first | refine kN9 ?_ _ | refine kD9 ?_ | refine kA9 ?_ _)); exact BK115.out) Tryz.underlying31 rfl (by kernel_rfl)) rfl ?_
       exact ⟨_, _, by first | rfl | (simp [eN9, eS9] <;> rfl) | (simp [*, eN9, eS9] <;> rfl), by first | exact Kd.R_nil _ _ _ _ _ | exact Kd.N_nil _ _ _ _ _ | exact Kd.V_nil _ _ _ _ _ | exact Kd.Q_nil _ _ _ _ _ | exact Kd.S_nil _ _ _ _ _, by first | exact Kd.R_nil _ _ _ _ _ | exact Kd.N_nil _ _ _ _ _ | exact Kd.V_nil _ _ _ _ _ | exact Kd.Q_nil _ _ _ _ _ | exact Kd.S_nil _ _ _ _ _, by repeat (first | (with_reducible first | exact HB.out | apply bA9 | apply bN9 | apply bD9 | refine bS9 ?_ GE115.out | refine bS9 ?_ GE126.out) | exact HB.out)⟩
     ·replace c19 := Bool.eq_false_iff.mpr c19
      subst c19
      have H1 : ((rat_May.f t117 t127 t123).bind fun t136 => (if t136 = 0 then (some (t117, t127, t123, 0)) else (some (false, ([] : List Int), ([] : List Int), 6)))) = some (r1, r2, r3, r4) := by rw [if_neg (show ¬ (false = true) by decide)] at H; exact H
      clear H
      have H := H1
      clear H1
      replace H := Option.bind_eq_some_iff.mp H
      obtain ⟨t136, A770, H⟩ := H
      (try dsimp only at H)
      have A77 := Aside0.mk A770
      clear A770
      by_cases c78 : t136 = 0
      ·rw [if_pos c78] at H
       have c78b0 : (t136 == 0) = true := beq_iff_eq.mpr c78
       have c78b1 : (t136 != 0) = false := bne_eq_false_iff_eq.mpr c78
       clear c78
       simp only [Option.some.injEq, Prod.mk.injEq] at H
       obtain ⟨rfl, rfl, rfl, rfl⟩ := H
       go_wp2_with (first | ((with_reducible refine gC9 (f := 34) rfl ?_); refine goesL_ (some 35) rfl rfl Tryz.func34 (by kernel_rfl) rfl #[.int .u64 1] rfl (by (try simp only [List.map_toArray, List.map_cons, List.map_nil]); first | done | rfl | (simp only [List.length_drop, List.length_take]; rfl)) ?_; (with_reducible refine (nat_Of.calls 1 t123 _ A16.out).mono ?_); rintro e w79 ⟨v124, rfl, ho0, hb⟩; refine ⟨_, rfl, ?_⟩; have n0_ := Aside0.mk (Kd.rL9 ho0 (bZ9 (by repeat (first | (with_reducible first | exact HB.out | apply bA9 | apply bN9 | apply bD9 | refine bS9 ?_ GE115.out) | exact HB.out)))); have n1_ := Aside0.mk (kB9 (g := gb115) (o := .cells #[.bool false, .slice none 0 0, .slice none 0 0] 31 (0, 0)) (by (with_reducible repeat (first | refine kN9 ?_ _ | refine kD9 ?_ | refine kA9 ?_ _)); exact BK115.out) hb); have n2_ := Aside0.mk (bT9 (by repeat (first | (with_reducible first | exact HB.out | apply bA9 | apply bN9 | apply bD9 | refine bS9 ?_ GE115.out) | exact HB.out)) hb); clear BK115; clear HB; have HO125 := n0_; have BK115 := n1_; have HB := n2_; clear n0_ n1_ n2_; (try clear hb); (try clear hb2); (try clear hk); (try clear hi); (try clear ho0); obtain ⟨Ao80, co80, eo80⟩ := Kd.rS9 HO125.out; subst eo80) | ((with_reducible refine gD9 (N := 9) rfl ?_); refine bE9 ?hg (N := 9) ?hd (cs := #[.bool false, .slice none 0 0, .slice none 0 0]) (t := 31) ?hr ?_; (case hd => rfl); (case hg => rfl); (case hr => first | (go_simp; done) | (go_simp; rfl)); intro gb126 hg w81 hbox hb; have n0_ := Aside0.mk (Kd.rB9 (by (with_reducible repeat (first | apply Kd.rA9 | apply Kd.rN9 | apply Kd.rD9)); exact HO125.out) hb); have n1_ := Aside0.mk (kB9 (g := gb115) (o := .cells #[.bool false, .slice none 0 0, .slice none 0 0] 31 (0, 0)) (by (with_reducible repeat (first | refine kN9 ?_ _ | refine kD9 ?_ | refine kA9 ?_ _)); exact BK115.out) hb); have n2_ := Aside0.mk (bT9 (by repeat (first | (with_reducible first | exact HB.out | apply bA9 | apply bN9 | apply bD9 | refine bS9 ?_ GE115.out) | exact HB.out)) hb); have n3_ := Aside0.mk (hbox); have n4_ := Aside0.mk ((by rw [hg]; exact (bZ9 (by repeat (first | (with_reducible first | exact HB.out | apply bA9 | apply bN9 | apply bD9 | refine bS9 ?_ GE115.out) | exact HB.out))) : w.heap.size ≤ gb126)); have n5_ := Aside0.mk ((by rw [hg]; exact (bZ9 (by repeat (first | (with_reducible first | exact HB.out | apply bA9 | apply bN9 | apply bD9 | refine bS9 ?_ GE115.out) | exact HB.out))) : w.heap.size ≤ gb126)); have n6_ := Aside0.mk ((by rw [hg]; exact Nat.ne_of_lt (blk_lt (g := gb115) (o := .cells #[.bool false, .slice none 0 0, .slice none 0 0] 31 (0, 0)) (by (with_reducible repeat (first | refine kN9 ?_ _ | refine kD9 ?_ | refine kA9 ?_ _)); exact BK115.out)) : gb115 ≠ gb126)); have n7_ := Aside0.mk ((by rw [hg]; exact Nat.ne_of_gt (blk_lt (g := gb115) (o := .cells #[.bool false, .slice none 0 0, .slice none 0 0] 31 (0, 0)) (by (with_reducible repeat (first | refine kN9 ?_ _ | refine kD9 ?_ | refine kA9 ?_ _)); exact BK115.out)) : gb126 ≠ gb115)); clear HO125; clear BK115; clear HB; have HO125 := n0_; have BK115 := n1_; have HB := n2_; have BK126 := n3_; have GW126 := n4_; have GE126 := n5_; have NB115_126 := n6_; have NB126_115 := n7_; clear n0_ n1_ n2_ n3_ n4_ n5_ n6_ n7_; clear hb hbox hg; have hnb82 := NB126_115.out; have hnc82 := NB115_126.out; have hcz83_0 : w81.cell? ⟨gb126, 0, none⟩ = some (.bool false) := (kC9 BK126.out 0).trans rfl; have hcz83_1 : w81.cell? ⟨gb126, 1, none⟩ = some (.slice none 0 0) := (kC9 BK126.out 1).trans rfl; have hcz83_2 : w81.cell? ⟨gb126, 2, none⟩ = some (.slice none 0 0) := (kC9 BK126.out 2).trans rfl; have hfz83_0 := kF9 BK126.out 0; have hfz83_1 := kF9 BK126.out 1; have hfz83_2 := kF9 BK126.out 2) | ((with_reducible refine gC9 (f := 43) rfl ?_); refine goesL_ (some 39) rfl rfl Tryz.func43 (by kernel_rfl) rfl #[.string t118] rfl (by (try simp only [List.map_toArray, List.map_cons, List.map_nil]); first | done | rfl | (simp only [List.length_drop, List.length_take]; rfl)) ?_; (with_reducible refine (digits_read.calls t118 t127 t128 _ A17.out).mono ?_); rintro e w84 ⟨v129, rfl, ho0, hb⟩; refine ⟨_, rfl, ?_⟩; have n0_ := Aside0.mk (Kd.R_elder' (by (with_reducible repeat (first | apply Kd.rA9 | apply Kd.rN9 | apply Kd.rD9)); exact (Kd.R_mono (Kd.R_far (p := ⟨gb126, 2, none⟩) (Kd.R_far (p := ⟨gb126, 1, none⟩) (Kd.R_far (p := ⟨gb126, 0, none⟩) (Kd.rT9 HO125.out BK126.out (by decide)) (fun _ hk => hk.2) (.bool t117)) (fun _ hk => hk.2) (.slice none 0 0)) (fun _ hk => hk.2) (.slice Ao80 t123.length co80)) (fun _ h_ => h_.1))) (Kd.R_base ho0) hb); have n1_ := Aside0.mk (Kd.rL9 (Kd.R_new' ho0 (Kd.R_lt (by (with_reducible repeat (first | apply Kd.rA9 | apply Kd.rN9 | apply Kd.rD9)); exact (Kd.R_mono (Kd.R_far (p := ⟨gb126, 2, none⟩) (Kd.R_far (p := ⟨gb126, 1, none⟩) (Kd.R_far (p := ⟨gb126, 0, none⟩) (Kd.rT9 HO125.out BK126.out (by decide)) (fun _ hk => hk.2) (.bool t117)) (fun _ hk => hk.2) (.slice none 0 0)) (fun _ hk => hk.2) (.slice Ao80 t123.length co80)) (fun _ h_ => h_.1))))) (bZ9 (by repeat (first | (with_reducible first | exact HB.out | apply bA9 | apply bN9 | apply bD9 | refine bS9 ?_ GE115.out | refine bS9 ?_ GE126.out) | exact HB.out)))); have n2_ := Aside0.mk (kB9 (g := gb115) (o := .cells #[.bool false, .slice none 0 0, .slice none 0 0] 31 (0, 0)) (by (with_reducible repeat (first | refine kN9 ?_ _ | refine kD9 ?_ | refine kA9 ?_ _)); refine blk_far ?_ NB115_126.out _; (with_reducible repeat (first | refine kN9 ?_ _ | refine kD9 ?_ | refine kA9 ?_ _)); refine blk_far ?_ NB115_126.out _; (with_reducible repeat (first | refine kN9 ?_ _ | refine kD9 ?_ | refine kA9 ?_ _)); refine blk_far ?_ NB115_126.out _; (with_reducible repeat (first | refine kN9 ?_ _ | refine kD9 ?_ | refine kA9 ?_ _)); exact BK115.out) hb); have n3_ := Aside0.mk (kB9 (g := gb126) (o := .cells #[.bool t117, .slice none 0 0, .slice Ao80 t123.length co80] 31 (0, 0)) (by (with_reducible repeat (first | refine kN9 ?_ _ | refine kD9 ?_ | refine kA9 ?_ _)); refine kP9 (cs := #[.bool t117, .slice none 0 0, .slice none 0 0]) ?_ 2 _ rfl; (with_reducible repeat (first | refine kN9 ?_ _ | refine kD9 ?_ | refine kA9 ?_ _)); refine kP9 (cs := #[.bool t117, .slice none 0 0, .slice none 0 0]) ?_ 1 _ rfl; (with_reducible repeat (first | refine kN9 ?_ _ | refine kD9 ?_ | refine kA9 ?_ _)); refine kP9 (cs := #[.bool false, .slice none 0 0, .slice none 0 0]) ?_ 0 _ rfl; (with_reducible repeat (first | refine kN9 ?_ _ | refine kD9 ?_ | refine kA9 ?_ _)); exact BK126.out) hb); have n4_ := Aside0.mk (bT9 (by repeat (first | (with_reducible first | exact HB.out | apply bA9 | apply bN9 | apply bD9 | refine bS9 ?_ GE115.out | refine bS9 ?_ GE126.out) | exact HB.out)) hb); clear HO125; clear BK115; clear BK126; clear HB; have HO125 := n0_; have HO130 := n1_; have BK115 := n2_; have BK126 := n3_; have HB := n4_; clear n0_ n1_ n2_ n3_ n4_; (try clear hb); (try clear hb2); (try clear hk); (try clear hi); (try clear ho0); obtain ⟨Ao85, co85, eo85⟩ := Kd.rS9 HO130.out; subst eo85; have hcz86_0 : w84.cell? ⟨gb126, 0, none⟩ = some (.bool t117) := (kC9 BK126.out 0).trans rfl; have hcz86_1 : w84.cell? ⟨gb126, 1, none⟩ = some (.slice none 0 0) := (kC9 BK126.out 1).trans rfl; have hcz86_2 : w84.cell? ⟨gb126, 2, none⟩ = some (.slice Ao80 t123.length co80) := (kC9 BK126.out 2).trans rfl; have hfz86_0 := kF9 BK126.out 0; have hfz86_1 := kF9 BK126.out 1; have hfz86_2 := kF9 BK126.out 2) | ((with_reducible refine gC9 (f := 44) rfl ?_); refine goesL_ (some 59) rfl rfl Tryz.func44 (by kernel_rfl) rfl #[.agg #[.bool t117, .slice Ao85 t127.length co85, .slice Ao80 t123.length co80]] rfl (by (try simp only [List.map_toArray, List.map_cons, List.map_nil]); first | done | rfl | (simp only [List.length_drop, List.length_take]; rfl)) ?_; (with_reducible refine (rat_May.calls t117 _ _ t127 _ _ t123 t136 _ ?side1 ?side2 ?side3 ?side4 A77.out).mono ?_); (case side1 => refine (Kd.rR9 (e := 88) (base := w.heap.size) (ok := fun k_ => (True ∧ some k_ ≠ (.slice Ao80 t123.length co80 : Value).ownBlock)) (n := t127.length) (c := co85) ?_).2.2; exact (by (with_reducible repeat (first | apply Kd.rA9 | apply Kd.rN9 | apply Kd.rD9)); exact (Kd.R_mono (Kd.R_far (p := ⟨gb126, 1, none⟩) (Kd.rT9 HO130.out BK126.out (by decide)) (fun _ hk => hk.2) (.slice Ao85 t127.length co85)) (fun _ h_ => h_.1)))); (case side2 => exact (Kd.rR9 HO130.out).2.1); (case side3 => refine (Kd.rR9 (e := 88) (base := w.heap.size) (ok := fun k_ => (True ∧ some k_ ≠ (.slice Ao85 t127.length co85 : Value).ownBlock)) (n := t123.length) (c := co80) ?_).2.2; exact (by (with_reducible repeat (first | apply Kd.rA9 | apply Kd.rN9 | apply Kd.rD9)); exact (Kd.R_mono (Kd.R_far (p := ⟨gb126, 1, none⟩) (Kd.rT9 HO125.out BK126.out (by decide)) (fun _ hk => hk.2) (.slice Ao85 t127.length co85)) (fun _ h_ => h_.1)))); (case side4 => exact (Kd.rR9 HO125.out).2.1); rintro e w87 ⟨rfl, hb⟩; refine ⟨_, rfl, ?_⟩; have n0_ := Aside0.mk (Kd.rB9 (by (with_reducible repeat (first | apply Kd.rA9 | apply Kd.rN9 | apply Kd.rD9)); exact (Kd.R_mono (Kd.R_far (p := ⟨gb126, 1, none⟩) (Kd.rT9 HO125.out BK126.out (by decide)) (fun _ hk => hk.2) (.slice Ao85 t127.length co85)) (fun _ h_ => h_.1))) hb); have n1_ := Aside0.mk (Kd.rB9 (by (with_reducible repeat (first | apply Kd.rA9 | apply Kd.rN9 | apply Kd.rD9)); exact (Kd.R_mono (Kd.R_far (p := ⟨gb126, 1, none⟩) (Kd.rT9 HO130.out BK126.out (by decide)) (fun _ hk => hk.2) (.slice Ao85 t127.length co85)) (fun _ h_ => h_.1))) hb); have n2_ := Aside0.mk (kB9 (g := gb115) (o := .cells #[.bool false, .slice none 0 0, .slice none 0 0] 31 (0, 0)) (by (with_reducible repeat (first | refine kN9 ?_ _ | refine kD9 ?_ | refine kA9 ?_ _)); refine blk_far ?_ NB115_126.out _; (with_reducible repeat (first | refine kN9 ?_ _ | refine kD9 ?_ | refine kA9 ?_ _)); exact BK115.out) hb); have n3_ := Aside0.mk (kB9 (g := gb126) (o := .cells #[.bool t117, .slice Ao85 t127.length co85, .slice Ao80 t123.length co80] 31 (0, 0)) (by (with_reducible repeat (first | refine kN9 ?_ _ | refine kD9 ?_ | refine kA9 ?_ _)); refine kP9 (cs := #[.bool t117, .slice none 0 0, .slice Ao80 t123.length co80]) ?_ 1 _ rfl; (with_reducible repeat (first | refine kN9 ?_ _ | refine kD9 ?_ | refine kA9 ?_ _)); exact BK126.out) hb); have n4_ := Aside0.mk (bT9 (by repeat (first | (with_reducible first | exact HB.out | apply bA9 | apply bN9 | apply bD9 | refine bS9 ?_ GE115.out | refine bS9 ?_ GE126.out) | exact HB.out)) hb); clear HO125; clear HO130; clear BK115; clear BK126; clear HB; have HO125 := n0_; have HO130 := n1_; have BK115 := n2_; have BK126 := n3_; have HB := n4_; clear n0_ n1_ n2_ n3_ n4_; (try clear hb); (try clear hb2); (try clear hk); (try clear hi); have hcz88_0 : w87.cell? ⟨gb126, 0, none⟩ = some (.bool t117) := (kC9 BK126.out 0).trans rfl; have hcz88_1 : w87.cell? ⟨gb126, 1, none⟩ = some (.slice Ao85 t127.length co85) := (kC9 BK126.out 1).trans rfl; have hcz88_2 : w87.cell? ⟨gb126, 2, none⟩ = some (.slice Ao80 t123.length co80) := (kC9 BK126.out 2).trans rfl; have hfz88_0 := kF9 BK126.out 0; have hfz88_1 := kF9 BK126.out 1; have hfz88_2 := kF9 BK126.out 2; have hcz89_0 : w87.cell? ⟨gb115, 0, none⟩ = some (.bool false) := (kC9 BK115.out 0).trans rfl; have hcz89_1 : w87.cell? ⟨gb115, 1, none⟩ = some (.slice none 0 0) := (kC9 BK115.out 1).trans rfl; have hcz89_2 : w87.cell? ⟨gb115, 2, none⟩ = some (.slice none 0 0) := (kC9 BK115.out 2).trans rfl; have hfz89_0 := kF9 BK115.out 0; have hfz89_1 := kF9 BK115.out 1; have hfz89_2 := kF9 BK115.out 2))
       refine bodyPost_ret (results_ct rfl _ _ gb115 31 #[.bool t117, .slice Ao85 t127.length co85, .slice Ao80 t123.length co80] (0, 0) _ rfl (by (with_reducible repeat (first | refine kN9 ?_ _ | refine kD9 ?_ | refine kA9 ?_ _)); refine kP9 (cs := #[.bool t117, .slice Ao85 t127.length co85, .slice none 0 0]) ?_ 2 _ rfl; (with_reducible repeat (first | refine kN9 ?_ _ | refine kD9 ?_ | refine kA9 ?_ _)); refine kP9 (cs := #[.bool t117, .slice none 0 0, .slice none 0 0]) ?_ 1 _ rfl; (with_reducible repeat (first | refine kN9 ?_ _ | refine kD9 ?_ | refine kA9 ?_ _)); refine kP9 (cs := #[.bool false, .slice none 0 0, .slice none 0 0]) ?_ 0 _ rfl; (with_reducible repeat (first | refine kN9 ?_ _ | refine kD9 ?_ | refine kA9 ?_ _)); exact BK115.out) Tryz.underlying31 rfl (by kernel_rfl)) rfl ?_
       exact ⟨_, _, by first | rfl | (simp [eN9, eS9] <;> rfl) | (simp [*, eN9, eS9] <;> rfl), by (with_reducible repeat (first | apply Kd.rA9 | apply Kd.rN9 | apply Kd.rD9)); exact Kd.R_mono (Kd.R_far (p := ⟨gb115, 2, none⟩) (Kd.R_far (p := ⟨gb115, 1, none⟩) (Kd.R_far (p := ⟨gb115, 0, none⟩) (Kd.rT9 HO130.out BK115.out (by decide)) (fun _ hk => hk.2) (.bool t117)) (fun _ hk => hk.2) (.slice Ao85 t127.length co85)) (fun _ hk => hk.2) (.slice Ao80 t123.length co80)) (fun _ hk => hk.1.2), by (with_reducible repeat (first | apply Kd.rA9 | apply Kd.rN9 | apply Kd.rD9)); exact Kd.R_mono (Kd.R_far (p := ⟨gb115, 2, none⟩) (Kd.R_far (p := ⟨gb115, 1, none⟩) (Kd.R_far (p := ⟨gb115, 0, none⟩) (Kd.rT9 HO125.out BK115.out (by decide)) (fun _ hk => hk.2) (.bool t117)) (fun _ hk => hk.2) (.slice Ao85 t127.length co85)) (fun _ hk => hk.2) (.slice Ao80 t123.length co80)) (fun _ hk => hk.1.2), by repeat (first | (with_reducible first | exact HB.out | apply bA9 | apply bN9 | apply bD9 | refine bS9 ?_ GE115.out | refine bS9 ?_ GE126.out) | exact HB.out)⟩
      ·rw [if_neg c78] at H
       have c78b0 : (t136 == 0) = false := beq_eq_false_iff_ne.mpr c78
       have c78b1 : (t136 != 0) = true := bne_iff_ne.mpr c78
       simp only [Option.some.injEq, Prod.mk.injEq] at H
       obtain ⟨rfl, rfl, rfl, rfl⟩ := H
       go_wp2_with (first | ((with_reducible refine gC9 (f := 34) rfl ?_); refine goesL_ (some 35) rfl rfl Tryz.func34 (by kernel_rfl) rfl #[.int .u64 1] rfl (by (try simp only [List.map_toArray, List.map_cons, List.map_nil]); first | done | rfl | (simp only [List.length_drop, List.length_take]; rfl)) ?_; (with_reducible refine (nat_Of.calls 1 t123 _ A16.out).mono ?_); rintro e w90 ⟨v124, rfl, ho0, hb⟩; refine ⟨_, rfl, ?_⟩; have n0_ := Aside0.mk (Kd.rL9 ho0 (bZ9 (by repeat (first | (with_reducible first | exact HB.out | apply bA9 | apply bN9 | apply bD9 | refine bS9 ?_ GE115.out) | exact HB.out)))); have n1_ := Aside0.mk (kB9 (g := gb115) (o := .cells #[.bool false, .slice none 0 0, .slice none 0 0] 31 (0, 0)) (by (with_reducible repeat (first | refine kN9 ?_ _ | refine kD9 ?_ | refine kA9 ?_ _)); exact BK115.out) hb); have n2_ := Aside0.mk (bT9 (by repeat (first | (with_reducible first | exact HB.out | apply bA9 | apply bN9 | apply bD9 | refine bS9 ?_ GE115.out) | exact HB.out)) hb); clear BK115; clear HB; have HO125 := n0_; have BK115 := n1_; have HB := n2_; clear n0_ n1_ n2_; (try clear hb); (try clear hb2); (try clear hk); (try clear hi); (try clear ho0); obtain ⟨Ao91, co91, eo91⟩ := Kd.rS9 HO125.out; subst eo91) | ((with_reducible refine gD9 (N := 9) rfl ?_); refine bE9 ?hg (N := 9) ?hd (cs := #[.bool false, .slice none 0 0, .slice none 0 0]) (t := 31) ?hr ?_; (case hd => rfl); (case hg => rfl); (case hr => first | (go_simp; done) | (go_simp; rfl)); intro gb126 hg w92 hbox hb; have n0_ := Aside0.mk (Kd.rB9 (by (with_reducible repeat (first | apply Kd.rA9 | apply Kd.rN9 | apply Kd.rD9)); exact HO125.out) hb); have n1_ := Aside0.mk (kB9 (g := gb115) (o := .cells #[.bool false, .slice none 0 0, .slice none 0 0] 31 (0, 0)) (by (with_reducible repeat (first | refine kN9 ?_ _ | refine kD9 ?_ | refine kA9 ?_ _)); exact BK115.out) hb); have n2_ := Aside0.mk (bT9 (by repeat (first | (with_reducible first | exact HB.out | apply bA9 | apply bN9 | apply bD9 | refine bS9 ?_ GE115.out) | exact HB.out)) hb); have n3_ := Aside0.mk (hbox); have n4_ := Aside0.mk ((by rw [hg]; exact (bZ9 (by repeat (first | (with_reducible first | exact HB.out | apply bA9 | apply bN9 | apply bD9 | refine bS9 ?_ GE115.out) | exact HB.out))) : w.heap.size ≤ gb126)); have n5_ := Aside0.mk ((by rw [hg]; exact (bZ9 (by repeat (first | (with_reducible first | exact HB.out | apply bA9 | apply bN9 | apply bD9 | refine bS9 ?_ GE115.out) | exact HB.out))) : w.heap.size ≤ gb126)); have n6_ := Aside0.mk ((by rw [hg]; exact Nat.ne_of_lt (blk_lt (g := gb115) (o := .cells #[.bool false, .slice none 0 0, .slice none 0 0] 31 (0, 0)) (by (with_reducible repeat (first | refine kN9 ?_ _ | refine kD9 ?_ | refine kA9 ?_ _)); exact BK115.out)) : gb115 ≠ gb126)); have n7_ := Aside0.mk ((by rw [hg]; exact Nat.ne_of_gt (blk_lt (g := gb115) (o := .cells #[.bool false, .slice none 0 0, .slice none 0 0] 31 (0, 0)) (by (with_reducible repeat (first | refine kN9 ?_ _ | refine kD9 ?_ | refine kA9 ?_ _)); exact BK115.out)) : gb126 ≠ gb115)); clear HO125; clear BK115; clear HB; have HO125 := n0_; have BK115 := n1_; have HB := n2_; have BK126 := n3_; have GW126 := n4_; have GE126 := n5_; have NB115_126 := n6_; have NB126_115 := n7_; clear n0_ n1_ n2_ n3_ n4_ n5_ n6_ n7_; clear hb hbox hg; have hnb93 := NB126_115.out; have hnc93 := NB115_126.out; have hcz94_0 : w92.cell? ⟨gb126, 0, none⟩ = some (.bool false) := (kC9 BK126.out 0).trans rfl; have hcz94_1 : w92.cell? ⟨gb126, 1, none⟩ = some (.slice none 0 0) := (kC9 BK126.out 1).trans rfl; have hcz94_2 : w92.cell? ⟨gb126, 2, none⟩ = some (.slice none 0 0) := (kC9 BK126.out 2).trans rfl; have hfz94_0 := kF9 BK126.out 0; have hfz94_1 := kF9 BK126.out 1; have hfz94_2 := kF9 BK126.out 2) | ((with_reducible refine gC9 (f := 43) rfl ?_); refine goesL_ (some 39) rfl rfl Tryz.func43 (by kernel_rfl) rfl #[.string t118] rfl (by (try simp only [List.map_toArray, List.map_cons, List.map_nil]); first | done | rfl | (simp only [List.length_drop, List.length_take]; rfl)) ?_; (with_reducible refine (digits_read.calls t118 t127 t128 _ A17.out).mono ?_); rintro e w95 ⟨v129, rfl, ho0, hb⟩; refine ⟨_, rfl, ?_⟩; have n0_ := Aside0.mk (Kd.R_elder' (by (with_reducible repeat (first | apply Kd.rA9 | apply Kd.rN9 | apply Kd.rD9)); exact (Kd.R_mono (Kd.R_far (p := ⟨gb126, 2, none⟩) (Kd.R_far (p := ⟨gb126, 1, none⟩) (Kd.R_far (p := ⟨gb126, 0, none⟩) (Kd.rT9 HO125.out BK126.out (by decide)) (fun _ hk => hk.2) (.bool t117)) (fun _ hk => hk.2) (.slice none 0 0)) (fun _ hk => hk.2) (.slice Ao91 t123.length co91)) (fun _ h_ => h_.1))) (Kd.R_base ho0) hb); have n1_ := Aside0.mk (Kd.rL9 (Kd.R_new' ho0 (Kd.R_lt (by (with_reducible repeat (first | apply Kd.rA9 | apply Kd.rN9 | apply Kd.rD9)); exact (Kd.R_mono (Kd.R_far (p := ⟨gb126, 2, none⟩) (Kd.R_far (p := ⟨gb126, 1, none⟩) (Kd.R_far (p := ⟨gb126, 0, none⟩) (Kd.rT9 HO125.out BK126.out (by decide)) (fun _ hk => hk.2) (.bool t117)) (fun _ hk => hk.2) (.slice none 0 0)) (fun _ hk => hk.2) (.slice Ao91 t123.length co91)) (fun _ h_ => h_.1))))) (bZ9 (by repeat (first | (with_reducible first | exact HB.out | apply bA9 | apply bN9 | apply bD9 | refine bS9 ?_ GE115.out | refine bS9 ?_ GE126.out) | exact HB.out)))); have n2_ := Aside0.mk (kB9 (g := gb115) (o := .cells #[.bool false, .slice none 0 0, .slice none 0 0] 31 (0, 0)) (by (with_reducible repeat (first | refine kN9 ?_ _ | refine kD9 ?_ | refine kA9 ?_ _)); refine blk_far ?_ NB115_126.out _; (with_reducible repeat (first | refine kN9 ?_ _ | refine kD9 ?_ | refine kA9 ?_ _)); refine blk_far ?_ NB115_126.out _; (with_reducible repeat (first | refine kN9 ?_ _ | refine kD9 ?_ | refine kA9 ?_ _)); refine blk_far ?_ NB115_126.out _; (with_reducible repeat (first | refine kN9 ?_ _ | refine kD9 ?_ | refine kA9 ?_ _)); exact BK115.out) hb); have n3_ := Aside0.mk (kB9 (g := gb126) (o := .cells #[.bool t117, .slice none 0 0, .slice Ao91 t123.length co91] 31 (0, 0)) (by (with_reducible repeat (first | refine kN9 ?_ _ | refine kD9 ?_ | refine kA9 ?_ _)); refine kP9 (cs := #[.bool t117, .slice none 0 0, .slice none 0 0]) ?_ 2 _ rfl; (with_reducible repeat (first | refine kN9 ?_ _ | refine kD9 ?_ | refine kA9 ?_ _)); refine kP9 (cs := #[.bool t117, .slice none 0 0, .slice none 0 0]) ?_ 1 _ rfl; (with_reducible repeat (first | refine kN9 ?_ _ | refine kD9 ?_ | refine kA9 ?_ _)); refine kP9 (cs := #[.bool false, .slice none 0 0, .slice none 0 0]) ?_ 0 _ rfl; (with_reducible repeat (first | refine kN9 ?_ _ | refine kD9 ?_ | refine kA9 ?_ _)); exact BK126.out) hb); have n4_ := Aside0.mk (bT9 (by repeat (first | (with_reducible first | exact HB.out | apply bA9 | apply bN9 | apply bD9 | refine bS9 ?_ GE115.out | refine bS9 ?_ GE126.out) | exact HB.out)) hb); clear HO125; clear BK115; clear BK126; clear HB; have HO125 := n0_; have HO130 := n1_; have BK115 := n2_; have BK126 := n3_; have HB := n4_; clear n0_ n1_ n2_ n3_ n4_; (try clear hb); (try clear hb2); (try clear hk); (try clear hi); (try clear ho0); obtain ⟨Ao96, co96, eo96⟩ := Kd.rS9 HO130.out; subst eo96; have hcz97_0 : w95.cell? ⟨gb126, 0, none⟩ = some (.bool t117) := (kC9 BK126.out 0).trans rfl; have hcz97_1 : w95.cell? ⟨gb126, 1, none⟩ = some (.slice none 0 0) := (kC9 BK126.out 1).trans rfl; have hcz97_2 : w95.cell? ⟨gb126, 2, none⟩ = some (.slice Ao91 t123.length co91) := (kC9 BK126.out 2).trans rfl; have hfz97_0 := kF9 BK126.out 0; have hfz97_1 := kF9 BK126.out 1; have hfz97_2 := kF9 BK126.out 2) | ((with_reducible refine gC9 (f := 44) rfl ?_); refine goesL_ (some 59) rfl rfl Tryz.func44 (by kernel_rfl) rfl #[.agg #[.bool t117, .slice Ao96 t127.length co96, .slice Ao91 t123.length co91]] rfl (by (try simp only [List.map_toArray, List.map_cons, List.map_nil]); first | done | rfl | (simp only [List.length_drop, List.length_take]; rfl)) ?_; (with_reducible refine (rat_May.calls t117 _ _ t127 _ _ t123 t136 _ ?side1 ?side2 ?side3 ?side4 A77.out).mono ?_); (case side1 => refine (Kd.rR9 (e := 88) (base := w.heap.size) (ok := fun k_ => (True ∧ some k_ ≠ (.slice Ao91 t123.length co91 : Value).ownBlock)) (n := t127.length) (c := co96) ?_).2.2; exact (by (with_reducible repeat (first | apply Kd.rA9 | apply Kd.rN9 | apply Kd.rD9)); exact (Kd.R_mono (Kd.R_far (p := ⟨gb126, 1, none⟩) (Kd.rT9 HO130.out BK126.out (by decide)) (fun _ hk => hk.2) (.slice Ao96 t127.length co96)) (fun _ h_ => h_.1)))); (case side2 => exact (Kd.rR9 HO130.out).2.1); (case side3 => refine (Kd.rR9 (e := 88) (base := w.heap.size) (ok := fun k_ => (True ∧ some k_ ≠ (.slice Ao96 t127.length co96 : Value).ownBlock)) (n := t123.length) (c := co91) ?_).2.2; exact (by (with_reducible repeat (first | apply Kd.rA9 | apply Kd.rN9 | apply Kd.rD9)); exact (Kd.R_mono (Kd.R_far (p := ⟨gb126, 1, none⟩) (Kd.rT9 HO125.out BK126.out (by decide)) (fun _ hk => hk.2) (.slice Ao96 t127.length co96)) (fun _ h_ => h_.1)))); (case side4 => exact (Kd.rR9 HO125.out).2.1); rintro e w98 ⟨rfl, hb⟩; refine ⟨_, rfl, ?_⟩; have n0_ := Aside0.mk (Kd.rB9 (by (with_reducible repeat (first | apply Kd.rA9 | apply Kd.rN9 | apply Kd.rD9)); exact (Kd.R_mono (Kd.R_far (p := ⟨gb126, 1, none⟩) (Kd.rT9 HO125.out BK126.out (by decide)) (fun _ hk => hk.2) (.slice Ao96 t127.length co96)) (fun _ h_ => h_.1))) hb); have n1_ := Aside0.mk (Kd.rB9 (by (with_reducible repeat (first | apply Kd.rA9 | apply Kd.rN9 | apply Kd.rD9)); exact (Kd.R_mono (Kd.R_far (p := ⟨gb126, 1, none⟩) (Kd.rT9 HO130.out BK126.out (by decide)) (fun _ hk => hk.2) (.slice Ao96 t127.length co96)) (fun _ h_ => h_.1))) hb); have n2_ := Aside0.mk (kB9 (g := gb115) (o := .cells #[.bool false, .slice none 0 0, .slice none 0 0] 31 (0, 0)) (by (with_reducible repeat (first | refine kN9 ?_ _ | refine kD9 ?_ | refine kA9 ?_ _)); refine blk_far ?_ NB115_126.out _; (with_reducible repeat (first | refine kN9 ?_ _ | refine kD9 ?_ | refine kA9 ?_ _)); exact BK115.out) hb); have n3_ := Aside0.mk (kB9 (g := gb126) (o := .cells #[.bool t117, .slice Ao96 t127.length co96, .slice Ao91 t123.length co91] 31 (0, 0)) (by (with_reducible repeat (first | refine kN9 ?_ _ | refine kD9 ?_ | refine kA9 ?_ _)); refine kP9 (cs := #[.bool t117, .slice none 0 0, .slice Ao91 t123.length co91]) ?_ 1 _ rfl; (with_reducible repeat (first | refine kN9 ?_ _ | refine kD9 ?_ | refine kA9 ?_ _)); exact BK126.out) hb); have n4_ := Aside0.mk (bT9 (by repeat (first | (with_reducible first | exact HB.out | apply bA9 | apply bN9 | apply bD9 | refine bS9 ?_ GE115.out | refine bS9 ?_ GE126.out) | exact HB.out)) hb); clear HO125; clear HO130; clear BK115; clear BK126; clear HB; have HO125 := n0_; have HO130 := n1_; have BK115 := n2_; have BK126 := n3_; have HB := n4_; clear n0_ n1_ n2_ n3_ n4_; (try clear hb); (try clear hb2); (try clear hk); (try clear hi); have hcz99_0 : w98.cell? ⟨gb115, 0, none⟩ = some (.bool false) := (kC9 BK115.out 0).trans rfl; have hcz99_1 : w98.cell? ⟨gb115, 1, none⟩ = some (.slice none 0 0) := (kC9 BK115.out 1).trans rfl; have hcz99_2 : w98.cell? ⟨gb115, 2, none⟩ = some (.slice none 0 0) := (kC9 BK115.out 2).trans rfl; have hfz99_0 := kF9 BK115.out 0; have hfz99_1 := kF9 BK115.out 1; have hfz99_2 := kF9 BK115.out 2))
       refine bodyPost_ret (results_ct rfl _ _ gb115 31 #[.bool false, .slice none 0 0, .slice none 0 0] (0, 0) _ rfl (by (with_reducible repeat (first | refine kN9 ?_ _ | refine kD9 ?_ | refine kA9 ?_ _)); refine kP9 (cs := #[.bool false, .slice none 0 0, .slice none 0 0]) ?_ 2 _ rfl; (with_reducible repeat (first | refine kN9 ?_ _ | refine kD9 ?_ | refine kA9 ?_ _)); refine kP9 (cs := #[.bool false, .slice none 0 0, .slice none 0 0]) ?_ 1 _ rfl; (with_reducible repeat (first | refine kN9 ?_ _ | refine kD9 ?_ | refine kA9 ?_ _)); refine kP9 (cs := #[.bool false, .slice none 0 0, .slice none 0 0]) ?_ 0 _ rfl; (with_reducible repeat (first | refine kN9 ?_ _ | refine kD9 ?_ | refine kA9 ?_ _)); exact BK115.out) Tryz.underlying31 rfl (by kernel_rfl)) rfl ?_
       exact ⟨_, _, by first | rfl | (simp [eN9, eS9] <;> rfl) | (simp [*, eN9, eS9] <;> rfl), by first | exact Kd.R_nil _ _ _ _ _ | exact Kd.N_nil _ _ _ _ _ | exact Kd.V_nil _ _ _ _ _ | exact Kd.Q_nil _ _ _ _ _ | exact Kd.S_nil _ _ _ _ _, by first | exact Kd.R_nil _ _ _ _ _ | exact Kd.N_nil _ _ _ _ _ | exact Kd.V_nil _ _ _ _ _ | exact Kd.Q_nil _ _ _ _ _ | exact Kd.S_nil _ _ _ _ _, by repeat (first | (with_reducible first | exact HB.out | apply bA9 | apply bN9 | apply bD9 | refine bS9 ?_ GE115.out | refine bS9 ?_ GE126.out) | exact HB.out)⟩
    ·rw [if_neg c18] at H
     have c18b0 : (t128 == 0) = false := beq_eq_false_iff_ne.mpr c18
     have c18b1 : (t128 != 0) = true := bne_iff_ne.mpr c18
     simp only [Option.some.injEq, Prod.mk.injEq] at H
     obtain ⟨rfl, rfl, rfl, rfl⟩ := H
     go_wp2_with (first | ((with_reducible refine gC9 (f := 34) rfl ?_); refine goesL_ (some 35) rfl rfl Tryz.func34 (by kernel_rfl) rfl #[.int .u64 1] rfl (by (try simp only [List.map_toArray, List.map_cons, List.map_nil]); first | done | rfl | (simp only [List.length_drop, List.length_take]; rfl)) ?_; (with_reducible refine (nat_Of.calls 1 t123 _ A16.out).mono ?_); rintro e w100 ⟨v124, rfl, ho0, hb⟩; refine ⟨_, rfl, ?_⟩; have n0_ := Aside0.mk (Kd.rL9 ho0 (bZ9 (by repeat (first | (with_reducible first | exact HB.out | apply bA9 | apply bN9 | apply bD9 | refine bS9 ?_ GE115.out) | exact HB.out)))); have n1_ := Aside0.mk (kB9 (g := gb115) (o := .cells #[.bool false, .slice none 0 0, .slice none 0 0] 31 (0, 0)) (by (with_reducible repeat (first | refine kN9 ?_ _ | refine kD9 ?_ | refine kA9 ?_ _)); exact BK115.out) hb); have n2_ := Aside0.mk (bT9 (by repeat (first | (with_reducible first | exact HB.out | apply bA9 | apply bN9 | apply bD9 | refine bS9 ?_ GE115.out) | exact HB.out)) hb); clear BK115; clear HB; have HO125 := n0_; have BK115 := n1_; have HB := n2_; clear n0_ n1_ n2_; (try clear hb); (try clear hb2); (try clear hk); (try clear hi); (try clear ho0); obtain ⟨Ao101, co101, eo101⟩ := Kd.rS9 HO125.out; subst eo101) | ((with_reducible refine gD9 (N := 9) rfl ?_); refine bE9 ?hg (N := 9) ?hd (cs := #[.bool false, .slice none 0 0, .slice none 0 0]) (t := 31) ?hr ?_; (case hd => rfl); (case hg => rfl); (case hr => first | (go_simp; done) | (go_simp; rfl)); intro gb126 hg w102 hbox hb; have n0_ := Aside0.mk (Kd.rB9 (by (with_reducible repeat (first | apply Kd.rA9 | apply Kd.rN9 | apply Kd.rD9)); exact HO125.out) hb); have n1_ := Aside0.mk (kB9 (g := gb115) (o := .cells #[.bool false, .slice none 0 0, .slice none 0 0] 31 (0, 0)) (by (with_reducible repeat (first | refine kN9 ?_ _ | refine kD9 ?_ | refine kA9 ?_ _)); exact BK115.out) hb); have n2_ := Aside0.mk (bT9 (by repeat (first | (with_reducible first | exact HB.out | apply bA9 | apply bN9 | apply bD9 | refine bS9 ?_ GE115.out) | exact HB.out)) hb); have n3_ := Aside0.mk (hbox); have n4_ := Aside0.mk ((by rw [hg]; exact (bZ9 (by repeat (first | (with_reducible first | exact HB.out | apply bA9 | apply bN9 | apply bD9 | refine bS9 ?_ GE115.out) | exact HB.out))) : w.heap.size ≤ gb126)); have n5_ := Aside0.mk ((by rw [hg]; exact (bZ9 (by repeat (first | (with_reducible first | exact HB.out | apply bA9 | apply bN9 | apply bD9 | refine bS9 ?_ GE115.out) | exact HB.out))) : w.heap.size ≤ gb126)); have n6_ := Aside0.mk ((by rw [hg]; exact Nat.ne_of_lt (blk_lt (g := gb115) (o := .cells #[.bool false, .slice none 0 0, .slice none 0 0] 31 (0, 0)) (by (with_reducible repeat (first | refine kN9 ?_ _ | refine kD9 ?_ | refine kA9 ?_ _)); exact BK115.out)) : gb115 ≠ gb126)); have n7_ := Aside0.mk ((by rw [hg]; exact Nat.ne_of_gt (blk_lt (g := gb115) (o := .cells #[.bool false, .slice none 0 0, .slice none 0 0] 31 (0, 0)) (by (with_reducible repeat (first | refine kN9 ?_ _ | refine kD9 ?_ | refine kA9 ?_ _)); exact BK115.out)) : gb126 ≠ gb115)); clear HO125; clear BK115; clear HB; have HO125 := n0_; have BK115 := n1_; have HB := n2_; have BK126 := n3_; have GW126 := n4_; have GE126 := n5_; have NB115_126 := n6_; have NB126_115 := n7_; clear n0_ n1_ n2_ n3_ n4_ n5_ n6_ n7_; clear hb hbox hg; have hnb103 := NB126_115.out; have hnc103 := NB115_126.out; have hcz104_0 : w102.cell? ⟨gb126, 0, none⟩ = some (.bool false) := (kC9 BK126.out 0).trans rfl; have hcz104_1 : w102.cell? ⟨gb126, 1, none⟩ = some (.slice none 0 0) := (kC9 BK126.out 1).trans rfl; have hcz104_2 : w102.cell? ⟨gb126, 2, none⟩ = some (.slice none 0 0) := (kC9 BK126.out 2).trans rfl; have hfz104_0 := kF9 BK126.out 0; have hfz104_1 := kF9 BK126.out 1; have hfz104_2 := kF9 BK126.out 2) | ((with_reducible refine gC9 (f := 43) rfl ?_); refine goesL_ (some 39) rfl rfl Tryz.func43 (by kernel_rfl) rfl #[.string t118] rfl (by (try simp only [List.map_toArray, List.map_cons, List.map_nil]); first | done | rfl | (simp only [List.length_drop, List.length_take]; rfl)) ?_; (with_reducible refine (digits_read.calls t118 t127 t128 _ A17.out).mono ?_); rintro e w105 ⟨v129, rfl, ho0, hb⟩; refine ⟨_, rfl, ?_⟩; have n0_ := Aside0.mk (Kd.R_elder' (by (with_reducible repeat (first | apply Kd.rA9 | apply Kd.rN9 | apply Kd.rD9)); exact (Kd.R_mono (Kd.R_far (p := ⟨gb126, 2, none⟩) (Kd.R_far (p := ⟨gb126, 1, none⟩) (Kd.R_far (p := ⟨gb126, 0, none⟩) (Kd.rT9 HO125.out BK126.out (by decide)) (fun _ hk => hk.2) (.bool t117)) (fun _ hk => hk.2) (.slice none 0 0)) (fun _ hk => hk.2) (.slice Ao101 t123.length co101)) (fun _ h_ => h_.1))) (Kd.R_base ho0) hb); have n1_ := Aside0.mk (Kd.rL9 (Kd.R_new' ho0 (Kd.R_lt (by (with_reducible repeat (first | apply Kd.rA9 | apply Kd.rN9 | apply Kd.rD9)); exact (Kd.R_mono (Kd.R_far (p := ⟨gb126, 2, none⟩) (Kd.R_far (p := ⟨gb126, 1, none⟩) (Kd.R_far (p := ⟨gb126, 0, none⟩) (Kd.rT9 HO125.out BK126.out (by decide)) (fun _ hk => hk.2) (.bool t117)) (fun _ hk => hk.2) (.slice none 0 0)) (fun _ hk => hk.2) (.slice Ao101 t123.length co101)) (fun _ h_ => h_.1))))) (bZ9 (by repeat (first | (with_reducible first | exact HB.out | apply bA9 | apply bN9 | apply bD9 | refine bS9 ?_ GE115.out | refine bS9 ?_ GE126.out) | exact HB.out)))); have n2_ := Aside0.mk (kB9 (g := gb115) (o := .cells #[.bool false, .slice none 0 0, .slice none 0 0] 31 (0, 0)) (by (with_reducible repeat (first | refine kN9 ?_ _ | refine kD9 ?_ | refine kA9 ?_ _)); refine blk_far ?_ NB115_126.out _; (with_reducible repeat (first | refine kN9 ?_ _ | refine kD9 ?_ | refine kA9 ?_ _)); refine blk_far ?_ NB115_126.out _; (with_reducible repeat (first | refine kN9 ?_ _ | refine kD9 ?_ | refine kA9 ?_ _)); refine blk_far ?_ NB115_126.out _; (with_reducible repeat (first | refine kN9 ?_ _ | refine kD9 ?_ | refine kA9 ?_ _)); exact BK115.out) hb); have n3_ := Aside0.mk (kB9 (g := gb126) (o := .cells #[.bool t117, .slice none 0 0, .slice Ao101 t123.length co101] 31 (0, 0)) (by (with_reducible repeat (first | refine kN9 ?_ _ | refine kD9 ?_ | refine kA9 ?_ _)); refine kP9 (cs := #[.bool t117, .slice none 0 0, .slice none 0 0]) ?_ 2 _ rfl; (with_reducible repeat (first | refine kN9 ?_ _ | refine kD9 ?_ | refine kA9 ?_ _)); refine kP9 (cs := #[.bool t117, .slice none 0 0, .slice none 0 0]) ?_ 1 _ rfl; (with_reducible repeat (first | refine kN9 ?_ _ | refine kD9 ?_ | refine kA9 ?_ _)); refine kP9 (cs := #[.bool false, .slice none 0 0, .slice none 0 0]) ?_ 0 _ rfl; (with_reducible repeat (first | refine kN9 ?_ _ | refine kD9 ?_ | refine kA9 ?_ _)); exact BK126.out) hb); have n4_ := Aside0.mk (bT9 (by repeat (first | (with_reducible first | exact HB.out | apply bA9 | apply bN9 | apply bD9 | refine bS9 ?_ GE115.out | refine bS9 ?_ GE126.out) | exact HB.out)) hb); clear HO125; clear BK115; clear BK126; clear HB; have HO125 := n0_; have HO130 := n1_; have BK115 := n2_; have BK126 := n3_; have HB := n4_; clear n0_ n1_ n2_ n3_ n4_; (try clear hb); (try clear hb2); (try clear hk); (try clear hi); (try clear ho0); obtain ⟨Ao106, co106, eo106⟩ := Kd.rS9 HO130.out; subst eo106; have hcz107_0 : w105.cell? ⟨gb126, 0, none⟩ = some (.bool t117) := (kC9 BK126.out 0).trans rfl; have hcz107_1 : w105.cell? ⟨gb126, 1, none⟩ = some (.slice none 0 0) := (kC9 BK126.out 1).trans rfl; have hcz107_2 : w105.cell? ⟨gb126, 2, none⟩ = some (.slice Ao101 t123.length co101) := (kC9 BK126.out 2).trans rfl; have hfz107_0 := kF9 BK126.out 0; have hfz107_1 := kF9 BK126.out 1; have hfz107_2 := kF9 BK126.out 2; have hcz108_0 : w105.cell? ⟨gb115, 0, none⟩ = some (.bool false) := (kC9 BK115.out 0).trans rfl; have hcz108_1 : w105.cell? ⟨gb115, 1, none⟩ = some (.slice none 0 0) := (kC9 BK115.out 1).trans rfl; have hcz108_2 : w105.cell? ⟨gb115, 2, none⟩ = some (.slice none 0 0) := (kC9 BK115.out 2).trans rfl; have hfz108_0 := kF9 BK115.out 0; have hfz108_1 := kF9 BK115.out 1; have hfz108_2 := kF9 BK115.out 2))
     refine bodyPost_ret (results_ct rfl _ _ gb115 31 #[.bool false, .slice none 0 0, .slice none 0 0] (0, 0) _ rfl (by (with_reducible repeat (first | refine kN9 ?_ _ | refine kD9 ?_ | refine kA9 ?_ _)); refine kP9 (cs := #[.bool false, .slice none 0 0, .slice none 0 0]) ?_ 2 _ rfl; (with_reducible repeat (first | refine kN9 ?_ _ | refine kD9 ?_ | refine kA9 ?_ _)); refine kP9 (cs := #[.bool false, .slice none 0 0, .slice none 0 0]) ?_ 1 _ rfl; (with_reducible repeat (first | refine kN9 ?_ _ | refine kD9 ?_ | refine kA9 ?_ _)); refine kP9 (cs := #[.bool false, .slice none 0 0, .slice none 0 0]) ?_ 0 _ rfl; (with_reducible repeat (first | refine kN9 ?_ _ | refine kD9 ?_ | refine kA9 ?_ _)); refine blk_far ?_ NB115_126.out _; (with_reducible repeat (first | refine kN9 ?_ _ | refine kD9 ?_ | refine kA9 ?_ _)); exact BK115.out) Tryz.underlying31 rfl (by kernel_rfl)) rfl ?_
     exact ⟨_, _, by first | rfl | (simp [eN9, eS9] <;> rfl) | (simp [*, eN9, eS9] <;> rfl), by first | exact Kd.R_nil _ _ _ _ _ | exact Kd.N_nil _ _ _ _ _ | exact Kd.V_nil _ _ _ _ _ | exact Kd.Q_nil _ _ _ _ _ | exact Kd.S_nil _ _ _ _ _, by first | exact Kd.R_nil _ _ _ _ _ | exact Kd.N_nil _ _ _ _ _ | exact Kd.V_nil _ _ _ _ _ | exact Kd.Q_nil _ _ _ _ _ | exact Kd.S_nil _ _ _ _ _, by repeat (first | (with_reducible first | exact HB.out | apply bA9 | apply bN9 | apply bD9 | refine bS9 ?_ GE115.out | refine bS9 ?_ GE126.out) | exact HB.out)⟩
end Go.Proofs.YtibaoacjjcgjlaaGreatDoor.Print

namespace Go.Proofs.YtibaoacjjcgjlaaGreatDoor.Print
open Go.RowKit Go.Proofs.YtibaoacjjcgjlaaGreatDoorW.PrintWords Go.Proofs.YtibaoacjjcgjlaaGreatDoorW.PrintLast Go.Proofs.YtibaoacjjcgjlaaGreatDoorW.PrintMore
set_option linter.unusedVariables false
set_option linter.unusedSimpArgs false
def inB (a b c : Int) : Bool := decide (a ≤ c) && decide (c ≤ b)
set_option maxRecDepth 100000 in
set_option maxHeartbeats 2000000 in
theorem between1_calls (Ba Bb : Nat) (a b c : Int) (W : World) (ha : Boxed W Ba 5 (.int .u8 a)) (hb : Boxed W Bb 5 (.int .u8 b)) :
    Calls Tryz.prog 87 #[.int .u8 c, .pointer (some ⟨Ba, 0, none⟩), .pointer (some ⟨Bb, 0, none⟩)] W fun e w' => e = .returned (.bool (inB a b c)) ∧ Drawn0 W w' := by
  have h1 := ha.cell
  have h2 := hb.cell
  by_cases c1 : a ≤ c
  · have d1 : decide (a ≤ c) = true := decide_eq_true c1
    go_enter Tryz.func87, Tryz.ntmps87
    go_wp2
    go_ret
    exact ⟨by unfold inB; rw [d1]; rfl, by repeat (first | exact Drawn0.refl _ | apply Drawn0.step)⟩
  · have d1 : decide (a ≤ c) = false := decide_eq_false c1
    go_enter Tryz.func87, Tryz.ntmps87
    go_wp2
    go_ret
    exact ⟨by unfold inB; rw [d1]; rfl, by repeat (first | exact Drawn0.refl _ | apply Drawn0.step)⟩
def boxes (w : World) (a b : Int) : World := (w.alloc (.cells #[.int .u8 a] 5)).alloc (.cells #[.int .u8 b] 5)
theorem boxes_size (w : World) (a b : Int) : (boxes w a b).heap.size = w.heap.size + 1 + 1 := by simp [boxes]
theorem between_calls (a b : Int) (w : World) : Calls Tryz.prog 86 #[.int .u8 a, .int .u8 b] w fun e w' => e = .returned (.func (.func 87) #[] #[.pointer (some ⟨w.heap.size, 0, none⟩), .pointer (some ⟨w.heap.size + 1, 0, none⟩)]) ∧ w' = boxes w a b := by
  go_enter Tryz.func86, Tryz.ntmps86
  go_wp2
  go_ret
  exact ⟨by simp, rfl⟩
def kindF (p : Nat) : Value := .func (.func 87) #[] #[.pointer (some ⟨p, 0, none⟩), .pointer (some ⟨p + 1, 0, none⟩)]
def kindsW (w : World) : World := (boxes (boxes (boxes w 97 122) 48 57) 95 95).alloc (.cells #[kindF w.heap.size, kindF (w.heap.size + 1 + 1), kindF (w.heap.size + 1 + 1 + 1 + 1)] 84)
set_option maxRecDepth 100000 in
set_option maxHeartbeats 2000000 in
theorem kinds_calls (w : World) : Calls Tryz.prog 53 #[] w fun e w' => e = .returned (.slice (some ⟨w.heap.size + 1 + 1 + 1 + 1 + 1 + 1, 0, none⟩) 3 3) ∧ w' = kindsW w := by
  go_enter Tryz.func53, Tryz.ntmps53
  go_wp2_with (go_at_call 86; refine (between_calls _ _ _).mono ?_; rintro e w' ⟨rfl, rfl⟩; simp only [boxes_size])
  go_ret
  exact ⟨by simp [boxes_size], by simp [kindsW, kindF, boxes_size]⟩
theorem boxed_drewN {W : World} {B : Nat} {t : TypeId} {v : Value} (h : Boxed W B t v) (m : Nat) : Boxed (W.drewN m) B t v := by
  unfold Boxed at h ⊢; simpa using h
structure KindsAt (n : Nat) (W : World) : Prop where
  c0 : W.cell? ⟨n + 1 + 1 + 1 + 1 + 1 + 1, 0, none⟩ = some (kindF n)
  c1 : W.cell? ⟨n + 1 + 1 + 1 + 1 + 1 + 1, 1, none⟩ = some (kindF (n + 1 + 1))
  c2 : W.cell? ⟨n + 1 + 1 + 1 + 1 + 1 + 1, 2, none⟩ = some (kindF (n + 1 + 1 + 1 + 1))
  b0 : Boxed W n 5 (.int .u8 97)
  b1 : Boxed W (n + 1) 5 (.int .u8 122)
  b2 : Boxed W (n + 1 + 1) 5 (.int .u8 48)
  b3 : Boxed W (n + 1 + 1 + 1) 5 (.int .u8 57)
  b4 : Boxed W (n + 1 + 1 + 1 + 1) 5 (.int .u8 95)
  b5 : Boxed W (n + 1 + 1 + 1 + 1 + 1) 5 (.int .u8 95)
theorem boxes_new (w : World) (a b : Int) : Boxed (boxes w a b) w.heap.size 5 (.int .u8 a) ∧ Boxed (boxes w a b) (w.heap.size + 1) 5 (.int .u8 b) := by
  have h0 := Boxed.new w 5 (.int .u8 a)
  have h1 := Boxed.new (w.alloc (.cells #[.int .u8 a] 5)) 5 (.int .u8 b)
  simp only [World.size_alloc] at h1
  exact ⟨h0.alloc _, h1⟩
theorem boxes_old {w : World} {B : Nat} {v : Value} (h : Boxed w B 5 v) (a b : Int) : Boxed (boxes w a b) B 5 v := (h.alloc _).alloc _
theorem kindsW_at (w : World) : KindsAt w.heap.size (kindsW w) := by
  obtain ⟨a0, a1⟩ := boxes_new w 97 122
  obtain ⟨a2, a3⟩ := boxes_new (boxes w 97 122) 48 57
  obtain ⟨a4, a5⟩ := boxes_new (boxes (boxes w 97 122) 48 57) 95 95
  simp only [boxes_size] at a2 a3 a4 a5
  have hn := World.alloc_heap_new (boxes (boxes (boxes w 97 122) 48 57) 95 95) (.cells #[kindF w.heap.size, kindF (w.heap.size + 1 + 1), kindF (w.heap.size + 1 + 1 + 1 + 1)] 84)
  simp only [boxes_size] at hn
  have hc : ∀ k v, (#[kindF w.heap.size, kindF (w.heap.size + 1 + 1), kindF (w.heap.size + 1 + 1 + 1 + 1)] : Array Value)[k]? = some v → (kindsW w).cell? ⟨w.heap.size + 1 + 1 + 1 + 1 + 1 + 1, k, none⟩ = some v := fun k v hv => by
    unfold World.cell? kindsW
    rw [hn]; exact hv
  exact ⟨hc 0 _ rfl, hc 1 _ rfl, hc 2 _ rfl, (boxes_old (boxes_old a0 48 57) 95 95).alloc _, (boxes_old (boxes_old a1 48 57) 95 95).alloc _, (boxes_old a2 95 95).alloc _, (boxes_old a3 95 95).alloc _, a4.alloc _, a5.alloc _⟩
theorem kindsW_below (w : World) : Below w.heap.size w (kindsW w) := by
  unfold kindsW boxes
  repeat (first | exact Below.refl _ _ | apply bA9)
def digAt (s : ByteArray) (j : Nat) : Bool := inB 48 57 (bt s (j : Int))
def natW (s : ByteArray) : Bool := if ∀ j, j < s.size → digAt s j = true then ((s.toList == ([48] : List UInt8)) || ((s.toList != ([] : List UInt8)) && (bt s 0 != 48))) else false
def lex_natural.f (a0 : ByteArray) : Option Bool := if a0.size ≤ 140737488351232 then some (natW a0) else none
set_option maxRecDepth 100000 in
set_option maxHeartbeats 8000000 in
theorem natural_calls (s : ByteArray) (hs : s.size ≤ 140737488351232) (w : World) : Calls Tryz.prog 37 #[.string s] w fun e w' => e = .returned (.bool (natW s)) ∧ Below w.heap.size w w' := by
  have HS := Aside0.mk hs
  clear hs
  go_enter Tryz.func37, Tryz.ntmps37
  go_wp2_with (go_at_call 53; refine (kinds_calls w).mono ?_; rintro e w1 ⟨rfl, hw1⟩; have HK := Aside0.mk (show KindsAt w.heap.size w1 by rw [hw1]; exact kindsW_at w); have HB := Aside0.mk (show Below w.heap.size w w1 by rw [hw1]; exact kindsW_below w); have k1 := HK.out.c1; unfold kindF at k1; clear hw1)
  go_loopw [10] (fun v10 wr => ∃ (i m : Nat), i ≤ s.size ∧ v10 = .int .i64 (i : Int) ∧ (∀ j, j < i → digAt s j = true) ∧ wr = w1.drewN m) (fun v10 _ => s.size - (intOf v10).toNat)
  case atStart => exact ⟨0, 0, Nat.zero_le _, rfl, fun j hj => absurd hj (by omega), rfl⟩
  case round =>
    obtain ⟨i, m, hi, rfl, hall, rfl⟩ := hrel
    by_cases hlt : i < s.size
    · have hd : decide ((i : Int) < (s.size : Int)) = true := decide_eq_true (by omega)
      have p1 : (0 ≤ (i : Int)) = True := eq_true (by omega)
      have q1 : ((i : Int) < (s.size : Int)) = True := eq_true (by omega)
      have hx : ((s[i]'hlt).toNat : Int) = bt s (i : Int) := bt_at s (i : Int) hlt
      cases hdig : inB 48 57 (bt s (i : Int)) with
      | true =>
        go_wp2_with (go_at_call 87; refine (between1_calls (w.heap.size + 1 + 1) (w.heap.size + 1 + 1 + 1) 48 57 _ _ (boxed_drewN HK.out.b2 m) (boxed_drewN HK.out.b3 m)).mono ?_; rintro e w' ⟨rfl, ⟨q, rfl⟩⟩; rw [hdig])
        go_roundw
        case rel => exact ⟨i + 1, m + q, by omega, by (have := HS.out; rw [show wrap64 ((i : Int) + 1) = (i : Int) + 1 from (by unfold wrap64; omega)]; rfl), fun j hj => by
          by_cases e : j = i
          · rw [e]; exact hdig
          · exact hall j (by omega), by first | rfl | exact World.drewN_add ..⟩
        case measure => have := HS.out; rw [show wrap64 ((i : Int) + 1) = (i : Int) + 1 from (by unfold wrap64; omega)]; simp [intOf]; omega
      | false =>
        go_wp2_with (go_at_call 87; refine (between1_calls (w.heap.size + 1 + 1) (w.heap.size + 1 + 1 + 1) 48 57 _ _ (boxed_drewN HK.out.b2 m) (boxed_drewN HK.out.b3 m)).mono ?_; rintro e w' ⟨rfl, ⟨q, rfl⟩⟩; rw [hdig])
        go_ret
        refine ⟨?_, bN9 HB.out _⟩
        rw [show natW s = false by unfold natW; rw [if_neg (fun c => by have := c i hlt; unfold digAt at this; rw [hdig] at this; cases this)]]; rfl
    · obtain rfl : i = s.size := by omega
      have hd : decide ((s.size : Int) < (s.size : Int)) = false := decide_eq_false (by omega)
      have E0 := Aside0.mk (show natW s = ((s.toList == ([48] : List UInt8)) || ((s.toList != ([] : List UInt8)) && (bt s 0 != 48))) by unfold natW; rw [if_pos hall])
      clear hall
      cases c1 : (s.toList == ([48] : List UInt8)) with
      | true =>
        go_wp2
        go_ret
        exact ⟨by rw [E0.out, c1]; rfl, bN9 HB.out _⟩
      | false =>
        cases hE : s.toList.isEmpty with
        | true =>
          have c2 : (s.toList != ([] : List UInt8)) = false := by
            have := List.isEmpty_iff.1 hE
            rw [this]; rfl
          have C2 := Aside0.mk c2
          have C1 := Aside0.mk c1
          clear c2
          go_wp2
          go_ret
          exact ⟨by rw [E0.out, C1.out, C2.out]; rfl, bN9 HB.out _⟩
        | false =>
          have hne : ¬ s.toList = [] := fun h => by rw [h] at hE; cases hE
          have c2 : (s.toList != ([] : List UInt8)) = true := by simpa using hne
          have hpos : 0 < s.size := by
            rcases Nat.eq_zero_or_pos s.size with h | h
            · have : s.toList = [] := by
                unfold ByteArray.toList ByteArray.toList.loop; simp [h]
              exact absurd this hne
            · exact h
          have q1 : ((0 : Int) < (s.size : Int)) = True := eq_true (by omega)
          have q2 : (0 < s.size) = True := eq_true hpos
          have hx : ((s[0]'hpos).toNat : Int) = bt s 0 := bt_at s 0 hpos
          have C2 := Aside0.mk c2
          have C1 := Aside0.mk c1
          clear c2
          cases c3 : (bt s 0 != 48) with
          | true =>
            go_wp2
            go_ret
            exact ⟨by rw [E0.out, C1.out, C2.out, c3]; rfl, bN9 HB.out _⟩
          | false =>
            go_wp2
            go_ret
            exact ⟨by rw [E0.out, C1.out, C2.out, c3]; rfl, bN9 HB.out _⟩
theorem lex_natural.calls (a0 : ByteArray) (r : Bool) (w : World) (h : lex_natural.f a0 = some r) :
    Calls Tryz.prog 37 #[.string a0] w fun e w' => e = .returned (.bool r) ∧ Below w.heap.size w w' := by
  unfold lex_natural.f at h
  by_cases hs : a0.size ≤ 140737488351232
  · rw [if_pos hs] at h
    obtain rfl := Option.some.inj h
    exact natural_calls a0 hs w
  · rw [if_neg hs] at h; cases h
end Go.Proofs.YtibaoacjjcgjlaaGreatDoor.Print

namespace Go.Proofs.YtibaoacjjcgjlaaGreatDoor.Print
open Go.RowKit Go.Proofs.YtibaoacjjcgjlaaGreatDoorW.PrintWords Go.Proofs.YtibaoacjjcgjlaaGreatDoorW.PrintLast Go.Proofs.YtibaoacjjcgjlaaGreatDoorW.PrintMore
set_option linter.unusedVariables false
set_option linter.unusedSimpArgs false
def mayK (s : ByteArray) (i : Nat) : Nat → Bool
  | 0 => false
  | 1 => inB 97 122 (bt s (i : Int))
  | 2 => inB 97 122 (bt s (i : Int)) || (inB 48 57 (bt s (i : Int)) && decide (0 < i))
  | _ => (inB 97 122 (bt s (i : Int)) || (inB 48 57 (bt s (i : Int)) && decide (0 < i))) || (inB 95 95 (bt s (i : Int)) && decide (0 < i))
def plainB (s : ByteArray) : Bool := if ∀ j, j < s.size → mayK s j 3 = true then ((s.toList != ([] : List UInt8)) && decide (s.size ≤ 32)) else false
def lex_plain.f (a0 : ByteArray) : Option Bool := if a0.size ≤ 140737488351232 then some (plainB a0) else none
set_option maxRecDepth 100000 in
set_option maxHeartbeats 16000000 in
theorem plain_calls (s : ByteArray) (hs : s.size ≤ 140737488351232) (w : World) : Calls Tryz.prog 30 #[.string s] w fun e w' => e = .returned (.bool (plainB s)) ∧ Below w.heap.size w w' := by
  have HS := Aside0.mk hs
  clear hs
  go_enter Tryz.func30, Tryz.ntmps30
  go_wp2
  go_loopw [9] (fun v9 wr => ∃ i : Nat, i ≤ s.size ∧ v9 = .int .i64 (i : Int) ∧ Aside0 (∀ j, j < i → mayK s j 3 = true) ∧ Aside0 (Below w.heap.size w wr)) (fun v9 _ => s.size - (intOf v9).toNat)
  case atStart => exact ⟨0, Nat.zero_le _, rfl, ⟨fun j hj => absurd hj (by omega)⟩, ⟨Below.refl _ _⟩⟩
  case round =>
    obtain ⟨i, hi, rfl, HA, HW⟩ := hrel
    by_cases hlt : i < s.size
    · have hd : decide ((i : Int) < (s.size : Int)) = true := decide_eq_true (by omega)
      go_wp2_with (go_at_call 53; refine (kinds_calls _).mono ?_; rintro e w1 ⟨rfl, hw1⟩; obtain ⟨n, hn⟩ : ∃ n, n = wr.heap.size := ⟨_, rfl⟩; rw [← hn]; have HK := Aside0.mk (show KindsAt n w1 by rw [hw1, hn]; exact kindsW_at wr); have HB := Aside0.mk (show Below w.heap.size w w1 by rw [hw1]; exact HW.out.trans ((kindsW_below wr).mono HW.out.size)); clear hw1 hn)
      go_loopw [4, 14] (fun v4 v14 w2 => ∃ (k m : Nat), k ≤ 3 ∧ v14 = .int .i64 (k : Int) ∧ v4 = .bool (mayK s i k) ∧ w2 = w1.drewN m) (fun _ v14 _ => 3 - (intOf v14).toNat)
      case atStart => exact ⟨0, 0, by omega, rfl, rfl, rfl⟩
      case round =>
        obtain ⟨k, m, hk, rfl, rfl, rfl⟩ := hrel
        have p1 : (0 ≤ (i : Int)) = True := eq_true (by omega)
        have q1 : ((i : Int) < (s.size : Int)) = True := eq_true (by omega)
        have hx : ((s[i]'hlt).toNat : Int) = bt s (i : Int) := bt_at s (i : Int) hlt
        rcases (by omega : k = 0 ∨ k = 1 ∨ k = 2 ∨ k = 3) with rfl | rfl | rfl | rfl
        · have k1 := HK.out.c0; unfold kindF at k1
          have hM : mayK s i 0 = false := rfl
          cases hB : inB 97 122 (bt s (i : Int)) with
          | true =>
            have hN : mayK s i 1 = true := hB
            go_wp2_with (go_at_call 87; refine (between1_calls (n) (n + 1) 97 122 _ _ (boxed_drewN HK.out.b0 m) (boxed_drewN HK.out.b1 m)).mono ?_; rintro e w' ⟨rfl, ⟨q, rfl⟩⟩; rw [hB])
            go_roundw
            case rel => exact ⟨1, m + q, by omega, rfl, by rw [hN], by simp⟩
            case measure => simp [intOf]
          | false =>
            have hN : mayK s i 1 = false := hB
            go_wp2_with (go_at_call 87; refine (between1_calls (n) (n + 1) 97 122 _ _ (boxed_drewN HK.out.b0 m) (boxed_drewN HK.out.b1 m)).mono ?_; rintro e w' ⟨rfl, ⟨q, rfl⟩⟩; rw [hB])
            go_roundw
            case rel => exact ⟨1, m + q, by omega, rfl, by rw [hN], by simp⟩
            case measure => simp [intOf]
        · have k1 := HK.out.c1; unfold kindF at k1
          cases hM : mayK s i 1 with
          | true =>
            have hN : mayK s i 2 = true := by (show (mayK s i 1 || _) = true; rw [hM]; rfl)
            go_wp2
            go_roundw
            case rel => exact ⟨2, m, by omega, rfl, by rw [hN], by simp⟩
            case measure => simp [intOf]
          | false =>
            cases hB : inB 48 57 (bt s (i : Int)) with
            | true =>
              by_cases h0 : 0 < i
              · have h0b : decide (0 < (i : Int)) = true := decide_eq_true (by omega)
                have hN : mayK s i 2 = true := by (show (mayK s i 1 || (inB 48 57 (bt s (i : Int)) && decide (0 < i))) = true; rw [hM, hB, decide_eq_true h0]; rfl)
                go_wp2_with (go_at_call 87; refine (between1_calls (n + 1 + 1) (n + 1 + 1 + 1) 48 57 _ _ (boxed_drewN HK.out.b2 m) (boxed_drewN HK.out.b3 m)).mono ?_; rintro e w' ⟨rfl, ⟨q, rfl⟩⟩; rw [hB])
                go_roundw
                case rel => exact ⟨2, m + q, by omega, rfl, by rw [hN], by simp⟩
                case measure => simp [intOf]
              · have h0b : decide (0 < (i : Int)) = false := decide_eq_false (by omega)
                have hN : mayK s i 2 = false := by (show (mayK s i 1 || (inB 48 57 (bt s (i : Int)) && decide (0 < i))) = false; rw [hM, hB, decide_eq_false h0]; rfl)
                go_wp2_with (go_at_call 87; refine (between1_calls (n + 1 + 1) (n + 1 + 1 + 1) 48 57 _ _ (boxed_drewN HK.out.b2 m) (boxed_drewN HK.out.b3 m)).mono ?_; rintro e w' ⟨rfl, ⟨q, rfl⟩⟩; rw [hB])
                go_roundw
                case rel => exact ⟨2, m + q, by omega, rfl, by rw [hN], by simp⟩
                case measure => simp [intOf]
            | false =>
              have hN : mayK s i 2 = false := by (show (mayK s i 1 || (inB 48 57 (bt s (i : Int)) && decide (0 < i))) = false; rw [hM, hB]; rfl)
              go_wp2_with (go_at_call 87; refine (between1_calls (n + 1 + 1) (n + 1 + 1 + 1) 48 57 _ _ (boxed_drewN HK.out.b2 m) (boxed_drewN HK.out.b3 m)).mono ?_; rintro e w' ⟨rfl, ⟨q, rfl⟩⟩; rw [hB])
              go_roundw
              case rel => exact ⟨2, m + q, by omega, rfl, by rw [hN], by simp⟩
              case measure => simp [intOf]
        · have k1 := HK.out.c2; unfold kindF at k1
          cases hM : mayK s i 2 with
          | true =>
            have hN : mayK s i 3 = true := by (show (mayK s i 2 || _) = true; rw [hM]; rfl)
            go_wp2
            go_roundw
            case rel => exact ⟨3, m, by omega, rfl, by rw [hN], by simp⟩
            case measure => simp [intOf]
          | false =>
            cases hB : inB 95 95 (bt s (i : Int)) with
            | true =>
              by_cases h0 : 0 < i
              · have h0b : decide (0 < (i : Int)) = true := decide_eq_true (by omega)
                have hN : mayK s i 3 = true := by (show (mayK s i 2 || (inB 95 95 (bt s (i : Int)) && decide (0 < i))) = true; rw [hM, hB, decide_eq_true h0]; rfl)
                go_wp2_with (go_at_call 87; refine (between1_calls (n + 1 + 1 + 1 + 1) (n + 1 + 1 + 1 + 1 + 1) 95 95 _ _ (boxed_drewN HK.out.b4 m) (boxed_drewN HK.out.b5 m)).mono ?_; rintro e w' ⟨rfl, ⟨q, rfl⟩⟩; rw [hB])
                go_roundw
                case rel => exact ⟨3, m + q, by omega, rfl, by rw [hN], by simp⟩
                case measure => simp [intOf]
              · have h0b : decide (0 < (i : Int)) = false := decide_eq_false (by omega)
                have hN : mayK s i 3 = false := by (show (mayK s i 2 || (inB 95 95 (bt s (i : Int)) && decide (0 < i))) = false; rw [hM, hB, decide_eq_false h0]; rfl)
                go_wp2_with (go_at_call 87; refine (between1_calls (n + 1 + 1 + 1 + 1) (n + 1 + 1 + 1 + 1 + 1) 95 95 _ _ (boxed_drewN HK.out.b4 m) (boxed_drewN HK.out.b5 m)).mono ?_; rintro e w' ⟨rfl, ⟨q, rfl⟩⟩; rw [hB])
                go_roundw
                case rel => exact ⟨3, m + q, by omega, rfl, by rw [hN], by simp⟩
                case measure => simp [intOf]
            | false =>
              have hN : mayK s i 3 = false := by (show (mayK s i 2 || (inB 95 95 (bt s (i : Int)) && decide (0 < i))) = false; rw [hM, hB]; rfl)
              go_wp2_with (go_at_call 87; refine (between1_calls (n + 1 + 1 + 1 + 1) (n + 1 + 1 + 1 + 1 + 1) 95 95 _ _ (boxed_drewN HK.out.b4 m) (boxed_drewN HK.out.b5 m)).mono ?_; rintro e w' ⟨rfl, ⟨q, rfl⟩⟩; rw [hB])
              go_roundw
              case rel => exact ⟨3, m + q, by omega, rfl, by rw [hN], by simp⟩
              case measure => simp [intOf]
        · cases hM : mayK s i 3 with
          | true =>
            go_wp2
            go_roundw
            case rel => exact ⟨i + 1, by omega, by (have := HS.out; rw [show wrap64 ((i : Int) + 1) = (i : Int) + 1 from (by unfold wrap64; omega)]; rfl), ⟨fun j hj => by
              by_cases e : j = i
              · rw [e]; exact hM
              · exact HA.out j (by omega)⟩, ⟨bN9 HB.out _⟩⟩
            case measure => have := HS.out; rw [show wrap64 ((i : Int) + 1) = (i : Int) + 1 from (by unfold wrap64; omega)]; simp [intOf]; omega
          | false =>
            go_wp2
            go_ret
            refine ⟨?_, bN9 HB.out _⟩
            rw [show plainB s = false by unfold plainB; rw [if_neg (fun c => by have := c i hlt; rw [hM] at this; cases this)]]; rfl
    · obtain rfl : i = s.size := by omega
      have hd : decide ((s.size : Int) < (s.size : Int)) = false := decide_eq_false (by omega)
      have E0 := Aside0.mk (show plainB s = ((s.toList != ([] : List UInt8)) && decide (s.size ≤ 32)) by unfold plainB; rw [if_pos HA.out])
      clear HA
      cases hE : s.toList.isEmpty with
      | true =>
        have C2 := Aside0.mk (show (s.toList != ([] : List UInt8)) = false by rw [List.isEmpty_iff.1 hE]; rfl)
        go_wp2
        go_ret
        exact ⟨by rw [E0.out, C2.out]; rfl, HW.out⟩
      | false =>
        have C2 := Aside0.mk (show (s.toList != ([] : List UInt8)) = true by
          have hne : ¬ s.toList = [] := fun h => by rw [h] at hE; cases hE
          simpa using hne)
        by_cases h32 : s.size ≤ 32
        · have d32 : decide ((s.size : Int) ≤ 32) = true := decide_eq_true (by omega)
          have D := Aside0.mk (show decide (s.size ≤ 32) = true from decide_eq_true h32)
          go_wp2
          go_ret
          exact ⟨by rw [E0.out, C2.out, D.out]; rfl, HW.out⟩
        · have d32 : decide ((s.size : Int) ≤ 32) = false := decide_eq_false (by omega)
          have D := Aside0.mk (show decide (s.size ≤ 32) = false from decide_eq_false h32)
          clear h32
          go_wp2
          go_ret
          exact ⟨by rw [E0.out, C2.out, D.out]; rfl, HW.out⟩
theorem lex_plain.calls (a0 : ByteArray) (r : Bool) (w : World) (h : lex_plain.f a0 = some r) :
    Calls Tryz.prog 30 #[.string a0] w fun e w' => e = .returned (.bool r) ∧ Below w.heap.size w w' := by
  unfold lex_plain.f at h
  by_cases hs : a0.size ≤ 140737488351232
  · rw [if_pos hs] at h
    obtain rfl := Option.some.inj h
    exact plain_calls a0 hs w
  · rw [if_neg hs] at h; cases h
end Go.Proofs.YtibaoacjjcgjlaaGreatDoor.Print

namespace Go.Proofs.YtibaoacjjcgjlaaGreatDoor.Print
open Go.RowKit Go.Shelf Go.Proofs.YtibaoacjjcgjlaaGreatDoorW.PrintWords Go.Proofs.YtibaoacjjcgjlaaGreatDoorW.PrintLast Go.Proofs.YtibaoacjjcgjlaaGreatDoorW.PrintMore
set_option linter.unusedVariables false
set_option linter.unusedSimpArgs false
theorem below_bytes (w : World) (t : TypeId) (s : ByteArray) : Below w.heap.size w (Lib.bytesWorld w t s) := Lib.bytesWorld_below w t s
def readN (u : Nat) : Int × Int := if 2147483647 < u then (0, 14) else ((u : Int), 0)
def RangeVar (w : World) : Prop := ∃ te pe, w.var? Tryz.prog "strconv.ErrRange" = some #[.iface te pe]
theorem RangeVar.below {w0 w : World} (h : RangeVar w0) (hb : Below w0.heap.size w0 w) : RangeVar w := by
  obtain ⟨te, pe, h⟩ := h
  refine ⟨te, pe, ?_⟩
  unfold World.var? at h ⊢
  obtain ⟨g, hg, h⟩ := Option.bind_eq_some_iff.1 h
  rw [hg, Option.bind_some]
  cases hw : w0.heap[g]? with
  | none => rw [hw] at h; cases h
  | some o =>
    have hlt := (Array.getElem?_eq_some_iff.1 hw).1
    rw [hb.block g hlt, hw]
    rw [hw] at h; exact h
def lex_read.f (a0 : ByteArray) : Option (Int × Int) :=
  if a0.size ≤ 140737488351232 then (if natW a0 = true then (match Lib.parseUintB 64 a0.data.toList with | .ok u => some (readN u) | .range => some (0, 14) | _ => none) else some (0, 19)) else none
set_option maxRecDepth 100000 in
set_option maxHeartbeats 8000000 in
theorem lex_read.calls (a0 : ByteArray) (r1 r2 : Int) (w : World) (hv : RangeVar w) (h : lex_read.f a0 = some (r1, r2)) :
    Calls Tryz.prog 19 #[.string a0] w fun e w' => e = .returned (.tuple #[.int .i64 r1, .int .i64 r2]) ∧ Below w.heap.size w w' := by
  unfold lex_read.f at h
  by_cases hs : ¬ a0.size ≤ 140737488351232
  · rw [if_neg hs] at h; cases h
  replace hs : a0.size ≤ 140737488351232 := Decidable.not_not.1 hs
  rw [if_pos hs] at h
  have hN := natural_calls a0 hs
  cases hn : natW a0 with
  | false =>
    rw [hn, if_neg (by decide)] at h
    obtain ⟨rfl, rfl⟩ := Prod.mk.inj (Option.some.inj h)
    rw [hn] at hN
    go_enter Tryz.func19, Tryz.ntmps19
    go_wp2_with (go_at_call 37; refine (hN _).mono ?_; rintro e w1 ⟨rfl, hb1⟩; have HB := Aside0.mk hb1; clear hb1)
    go_ret2
    exact ⟨rfl, HB.out⟩
  | true =>
    rw [hn, if_pos rfl] at h
    rw [hn] at hN
    by_cases hok : ∃ u, Lib.parseUintB 64 a0.data.toList = .ok u
    · obtain ⟨u, hp⟩ := hok
      rw [hp] at h
      have hr : readN u = (r1, r2) := Option.some.inj h
      have hP := fun W => Any.strconv_ParseUint_10_at64_ok Tryz.layParseUint a0 (by omega) u hp W
      clear hp h
      unfold readN at hr
      by_cases hu : 2147483647 < u
      · rw [if_pos hu] at hr
        obtain ⟨rfl, rfl⟩ := Prod.mk.inj hr
        have d1 : decide (2147483647 < (u : Int)) = true := decide_eq_true (by omega)
        go_enter Tryz.func19, Tryz.ntmps19
        go_wp2_with (go_at_call 37; refine (hN _).mono ?_; rintro e w1 ⟨rfl, hb1⟩; have HB := Aside0.mk hb1; clear hb1)
        go_wp2_with (go_at_call 39; refine (hP _).mono ?_; rintro e w2 ⟨rfl, hb2⟩; have HB2 := Aside0.mk (HB.out.trans ((show Below w1.heap.size w1 w2 by rcases hb2 with rfl | rfl; exact Below.refl _ _; exact below_bytes _ _ _).mono HB.out.size)); clear hb2)
        go_ret2
        exact ⟨rfl, HB2.out⟩
      · rw [if_neg hu] at hr
        obtain ⟨rfl, rfl⟩ := Prod.mk.inj hr
        have d1 : decide (2147483647 < (u : Int)) = false := decide_eq_false (by omega)
        have HU := Aside0.mk hu
        clear hu
        go_enter Tryz.func19, Tryz.ntmps19
        go_wp2_with (go_at_call 37; refine (hN _).mono ?_; rintro e w1 ⟨rfl, hb1⟩; have HB := Aside0.mk hb1; clear hb1)
        go_wp2_with (go_at_call 39; refine (hP _).mono ?_; rintro e w2 ⟨rfl, hb2⟩; have HB2 := Aside0.mk (HB.out.trans ((show Below w1.heap.size w1 w2 by rcases hb2 with rfl | rfl; exact Below.refl _ _; exact below_bytes _ _ _).mono HB.out.size)); clear hb2)
        go_ret2
        exact ⟨by have := HU.out; rw [show wrap64 (u : Int) = (u : Int) from (by unfold wrap64; omega)]; rfl, HB2.out⟩
    · by_cases hrg : Lib.parseUintB 64 a0.data.toList = .range
      · rw [hrg] at h
        obtain ⟨rfl, rfl⟩ := Prod.mk.inj (Option.some.inj h)
        have HV := Aside0.mk hv
        have hP : ∀ W, RangeVar W → Calls Tryz.prog 39 #[.string a0, .int .i64 10, .int .i64 64] W fun e w' => ∃ te pe, e = .returned (.tuple #[.int .u64 18446744073709551615, .iface te pe]) ∧ Below W.heap.size W w' := by
          rintro W ⟨te, pe, hv⟩
          refine (Any.strconv_ParseUint_10_at64_range Tryz.layParseUint a0 (by omega) hrg (.iface te pe) W (World.var?_cell (by kernel_rfl) hv 0) (Or.inr ⟨te, pe, rfl⟩)).mono ?_
          rintro e w' ⟨nn, he, _, _, hb⟩
          exact ⟨_, _, he, hb⟩
        clear hrg hok hv
        go_enter Tryz.func19, Tryz.ntmps19
        go_wp2_with (go_at_call 37; refine (hN _).mono ?_; rintro e w1 ⟨rfl, hb1⟩; have HB := Aside0.mk hb1; clear hb1)
        go_wp2_with (go_at_call 39; refine (hP _ (HV.out.below HB.out)).mono ?_; rintro e w2 ⟨te, pe, rfl, hb2⟩; have HB2 := Aside0.mk (HB.out.trans (hb2.mono HB.out.size)); clear hb2)
        go_ret2
        exact ⟨rfl, HB2.out⟩
      · have hnone : (match Lib.parseUintB 64 a0.data.toList with | .ok u => some (readN u) | .range => some (0, 14) | _ => none) = (none : Option (Int × Int)) := by
          split
          · rename_i u hp; exact absurd ⟨u, hp⟩ hok
          · rename_i hp; exact absurd hp hrg
          · rfl
        rw [hnone] at h; cases h
end Go.Proofs.YtibaoacjjcgjlaaGreatDoor.Print

namespace Go.Proofs
open Go.RowKit Go.Shelf
shelf_lay Lays.n144 Nm 144 at Tryz as Tryz.layContains
end Go.Proofs
namespace Go.Proofs.YtibaoacjjcgjlaaGreatDoor.Print
open Go.RowKit Go.Shelf Go.Proofs.YtibaoacjjcgjlaaGreatDoorW.PrintWords Go.Proofs.YtibaoacjjcgjlaaGreatDoorW.PrintLast
set_option linter.unusedVariables false
set_option linter.unusedSimpArgs false
def lfAt (s : ByteArray) : Int := Lib.indexByte s.data.toList 10
theorem lfAt_lt (s : ByteArray) : lfAt s < (s.size : Int) := by
  have := indexByte_lt s.data.toList 10
  have e : s.data.toList.length = s.size := by cases s; rfl
  rw [e] at this; exact this
def cutLF (s : ByteArray) : ByteArray × ByteArray × Bool := if 0 ≤ lfAt s then (s.extract 0 (lfAt s).toNat, s.extract ((lfAt s).toNat + 1) s.size, true) else (s, ⟨#[]⟩, false)
set_option maxRecDepth 100000 in
set_option maxHeartbeats 2000000 in
theorem cutlite10_calls (s : ByteArray) (hs : s.size ≤ 140737488351232) (w : World) :
    Calls Tryz.prog 72 #[.string s, .string ⟨#[10]⟩] w fun e w' => e = .returned (.tuple #[.string (cutLF s).1, .string (cutLF s).2.1, .bool (cutLF s).2.2]) ∧ Drawn0 w w' := by
  by_cases h : 0 ≤ lfAt s
  · obtain ⟨i, hi⟩ : ∃ i : Nat, lfAt s = (i : Int) := ⟨(lfAt s).toNat, by omega⟩
    have hlt := lfAt_lt s
    rw [show cutLF s = (s.extract 0 (lfAt s).toNat, s.extract ((lfAt s).toNat + 1) s.size, true) from if_pos h, hi]
    have c1 : (0 : Int) ≤ ↑i := by omega
    have c2 : (↑i : Int) ≤ ↑s.size := by omega
    have c3 : (0 : Int) ≤ ↑i + 1 := by omega
    have c4 : (↑i + 1 : Int) ≤ ↑s.size := by omega
    have c5 : IntKind.i64.wrap ((i : Int) + 1) = (i : Int) + 1 := by rw [i64_w]; unfold wrap64; omega
    have mixed : Tryz.prog.follows .mixedOrders = true := by kernel_rfl
    have hI := fun w => Any.stringslite_Index_one Tryz.layIndexLite s 10 w
    rw [show Lib.indexByte s.data.toList 10 = (i : Int) from hi] at hI
    go_enter Tryz.func72, Tryz.ntmps72
    go_wp2_with (go_at_call 105; refine (hI _).mono ?_; rintro e w' ⟨rfl, rfl⟩)
    go_region_o
    go_wp2
    go_ret3
    exact ⟨rfl, 1, rfl⟩
  · rw [show cutLF s = (s, ⟨#[]⟩, false) from if_neg h]
    have hd : decide (0 ≤ lfAt s) = false := decide_eq_false h
    have hI := fun w => Any.stringslite_Index_one Tryz.layIndexLite s 10 w
    rw [show Lib.indexByte s.data.toList 10 = lfAt s from rfl] at hI
    generalize lfAt s = i at hd hI
    go_enter Tryz.func72, Tryz.ntmps72
    go_wp2_with (go_at_call 105; refine (hI _).mono ?_; rintro e w' ⟨rfl, rfl⟩)
    go_ret3
    exact ⟨rfl, 0, rfl⟩
def strings_CutLF.f (a0 a1 : ByteArray) : Option (ByteArray × ByteArray × Bool) := if a1 = ⟨#[10]⟩ ∧ a0.size ≤ 140737488351232 then some (cutLF a0) else none
set_option maxRecDepth 100000 in
theorem strings_CutLF.calls (a0 a1 : ByteArray) (r1 r2 : ByteArray) (r3 : Bool) (w : World) (h : strings_CutLF.f a0 a1 = some (r1, r2, r3)) :
    Calls Tryz.prog 41 #[.string a0, .string a1] w fun e w' => e = .returned (.tuple #[.string r1, .string r2, .bool r3]) ∧ Drawn0 w w' := by
  unfold strings_CutLF.f at h
  by_cases ha : a1 = ⟨#[10]⟩ ∧ a0.size ≤ 140737488351232
  · rw [if_pos ha] at h
    obtain ⟨rfl, hs⟩ := ha
    have h := Option.some.inj h
    have hC := cutlite10_calls a0 hs
    rw [h] at hC
    go_enter Tryz.func41, Tryz.ntmps41
    go_wp2_with (go_at_call 72; refine (hC _).mono ?_; rintro e w' ⟨rfl, ⟨n, rfl⟩⟩)
    go_ret3
    exact ⟨rfl, n, rfl⟩
  · rw [if_neg ha] at h; cases h
def strings_Contains.f (a0 a1 : ByteArray) : Option Bool := if a1 = ⟨#[10]⟩ then some (decide (0 ≤ lfAt a0)) else none
theorem strings_Contains.calls (a0 a1 : ByteArray) (r : Bool) (w : World) (h : strings_Contains.f a0 a1 = some r) :
    Calls Tryz.prog 36 #[.string a0, .string a1] w fun e w' => e = .returned (.bool r) ∧ Drawn0 w w' := by
  unfold strings_Contains.f at h
  by_cases ha : a1 = ⟨#[10]⟩
  · subst ha
    rw [if_pos rfl] at h
    obtain rfl := Option.some.inj h
    exact (Any.strings_Contains_one Tryz.layContains a0 10 w).mono fun e w' ⟨he, hw⟩ => ⟨he, 0, by rw [hw]; rfl⟩
  · rw [if_neg ha] at h; cases h
end Go.Proofs.YtibaoacjjcgjlaaGreatDoor.Print

namespace Go.Proofs
open Go.RowKit Go.Shelf
shelf_lay Lays.n146 Nm 146 at Tryz as Tryz.laySplit
shelf_lay Lays.n221 Nm 221 at Tryz as Tryz.layGenSplit
shelf_lay Lays.n138 Nm 138 at Tryz as Tryz.layCount
shelf_lay Lays.n143 Nm 143 at Tryz as Tryz.layIndex
end Go.Proofs
namespace Go.Proofs.YtibaoacjjcgjlaaGreatDoor.Print
open Go.RowKit Go.Shelf Go.Proofs.YtibaoacjjcgjlaaGreatDoorW.PrintWords Go.Proofs.YtibaoacjjcgjlaaGreatDoorW.PrintLast
set_option linter.unusedVariables false
set_option linter.unusedSimpArgs false
def spB : ByteArray := ⟨#[32]⟩
def wordsOf (s : ByteArray) : List ByteArray := Lib.splitB spB 0 (Lib.countB s spB) s
theorem wordsOf_length (s : ByteArray) : (wordsOf s).length = Lib.countB s spB + 1 := Lib.splitB_all spB (by decide) 0 _ s rfl
theorem count_le (s : ByteArray) : Lib.countB s spB ≤ s.size := Lib.countB_le spB (by decide) s.size s (Nat.le_refl _)
theorem index_sp (s : ByteArray) (w : World) : Calls Tryz.prog 68 #[.string s, .string spB] w fun e w' => e = .returned (.int .i64 (Lib.indexB s spB)) ∧ w' = w := by
  refine (Any.strings_Index_one Tryz.layIndex s 32 w).mono fun e w' ⟨he, hw⟩ => ⟨?_, hw⟩
  rw [he]
  show _ = Ending.returned (Value.int .i64 (Lib.index s.data.toList [32]))
  rw [Lib.index_one]
theorem count_sp (s : ByteArray) (w : World) : Calls Tryz.prog 104 #[.string s, .string spB] w fun e w' => e = .returned (.int .i64 (Lib.countB s spB)) ∧ w' = w := by
  refine (Any.strings_Count_one Tryz.layCount s 32 w).mono fun e w' ⟨he, hw⟩ => ⟨?_, hw⟩
  rw [he]
  show _ = Ending.returned (Value.int .i64 ((Lib.count s.data.toList [32] : Nat) : Int))
  rw [Lib.count_one]
  rfl
set_option maxRecDepth 100000 in
set_option maxHeartbeats 2000000 in
theorem split_calls (s : ByteArray) (w : World) (hs : s.size < 4294967281) :
    Calls Tryz.prog 35 #[.string s, .string spB] w fun e w' => e = .returned (.slice (some ⟨w.heap.size, 0, none⟩) (Lib.countB s spB + 1) (Lib.countB s spB + 1)) ∧ w' = w.alloc (.cells ((wordsOf s).map Value.string).toArray 9) := by
  have hle := count_le s
  have hlen := wordsOf_length s
  have c := Any.strings_genSplit_core Tryz.layGenSplit info9 s spB 0 (-1) (Lib.countB s spB + 1) w hs (by decide) (Nat.zero_le _) (fun x c _ => index_sp x _) (count_sp s w) (by decide) (by decide) (by rw [if_pos (by decide)]; omega)
  rw [Nat.add_sub_cancel, show Lib.splitB spB 0 (Lib.countB s spB) s = wordsOf s from rfl, hlen] at c
  have e2 : Lib.cellsOf (wordsOf s) (Lib.countB s spB + 1) = ((wordsOf s).map Value.string).toArray := by rw [← hlen]; exact Lib.cellsOf_full _
  rw [e2] at c
  go_enter Tryz.func35, Tryz.ntmps35
  go_wp2_with (go_at_call 67; refine c.mono ?_; rintro e w' ⟨rfl, hw⟩; rw [hw])
  go_ret
  exact ⟨rfl, rfl⟩
def strings_Split.f (a0 a1 : ByteArray) : Option (List ByteArray) := if a1 = spB ∧ a0.size < 4294967281 then some (wordsOf a0) else none
theorem strings_Split.calls (a0 a1 : ByteArray) (r : List ByteArray) (w : World) (h : strings_Split.f a0 a1 = some r) :
    Calls Tryz.prog 35 #[.string a0, .string a1] w fun e w' => ∃ v0_ : Value, e = .returned v0_ ∧ Kd.R Kd.string 9 w' w.heap.size (fun _ => True) v0_ r ∧ Below w.heap.size w w' := by
  unfold strings_Split.f at h
  by_cases ha : a1 = spB ∧ a0.size < 4294967281
  · rw [if_pos ha] at h
    obtain ⟨rfl, hs⟩ := ha
    obtain rfl := Option.some.inj h
    have hlen := wordsOf_length a0
    have hle := count_le a0
    refine (split_calls a0 w hs).mono fun e w' ⟨he, hw⟩ => ⟨_, he, ?_, by rw [hw]; exact bA9 (Below.refl _ _) _⟩
    rw [hw]
    refine Kd.R_of_own ⟨?_, .inr ⟨w.heap.size, Lib.countB a0 spB + 1, _, by rw [hlen], Nat.le_refl _, heap_alloc_new w _, ?_, ?_, ?_, ?_⟩⟩ (fun _ _ => trivial)
    · simp [encs]
    · omega
    · show Lib.countB a0 spB + 1 ≤ 9223372036854775807; omega
    · simp; omega
    · simp only [encs, Nat.mul_one]; exact List.take_of_length_le (by simp)
  · rw [if_neg ha] at h; cases h
end Go.Proofs.YtibaoacjjcgjlaaGreatDoor.Print
