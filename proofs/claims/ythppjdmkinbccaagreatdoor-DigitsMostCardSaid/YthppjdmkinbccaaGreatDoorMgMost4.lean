/- Written by wip/tools/claimtexts.py: these texts, one behind another, without what this claim does not use: HDiv, C1, HMake, D1. -/
import Derived.Test.YthppjdmkinbccaaGreatDoorMgMost3
import Derived.Ground.NamesProg
import Derived.Shelf.Lay
import Derived.Shelf.Small.Bits
import Derived.Test.YthppjdmkinbccaaGreatDoorMgMost2
namespace Go.Proofs
open Go.RowKit Go.Shelf
shelf_lay Lays.n133 Nm 133 at Tryz as Tryz.layLead32
end Go.Proofs
namespace Go.Proofs.YthppjdmkinbccaaGreatDoor.Print
open Go.RowKit Go.Proofs.YthppjdmkinbccaaGreatDoorW.PrintWords Go.Proofs.YthppjdmkinbccaaGreatDoorW.PrintLast Go.Proofs.YthppjdmkinbccaaGreatDoorW.PrintMore Go.Proofs.YthppjdmkinbccaaGreatDoor.Base
set_option linter.unusedVariables false
set_option linter.unusedSimpArgs false
theorem slice_form {f : FuncId} {args : Array Value} {w : World} {base : Nat} {ok : Nat → Prop} {r : List Int} {n : Nat} (h : Calls Tryz.prog f args w fun e w' => ∃ v0_ : Value, e = .returned v0_ ∧ Kd.R (Kd.int .u32) 56 w' base ok v0_ r ∧ Below w.heap.size w w') (hn : r.length = n) :
    Calls Tryz.prog f args w fun e w' => ∃ A c, e = .returned (.slice A n c) ∧ n ≤ c ∧ Kd.R (Kd.int .u32) 56 w' base ok (.slice A n c) r ∧ Below w.heap.size w w' :=
  h.mono fun e w' ⟨v, he, hR, hb⟩ => by
    obtain ⟨A, c, rfl, hc, _⟩ := Kd.R_reads hR
    subst hn
    exact ⟨A, c, he, hc, hR, hb⟩
theorem C_of_R {w : World} {base : Nat} {ok : Nat → Prop} {A : Option Addr} {n c : Nat} {r : List Int} (h : Kd.R (Kd.int .u32) 56 w base ok (.slice A n c) r) (hn : r.length = n) : Kd.C (Kd.int .u32) w A r.length r := by
  obtain ⟨A', c', e, hc, hC⟩ := Kd.R_reads h
  cases e
  exact hC
theorem trim_call {l t : List Int} {n : Nat} (ht : trimL l = t) (hn : t.length = n) (hok : okN l = true) (A : Option Addr) (c : Nat) (w : World) (hr : Kd.C (Kd.int .u32) w A l.length l) (hc : l.length ≤ c) :
    Calls Tryz.prog 45 #[.slice A l.length c] w fun e w' => ∃ A' c', e = .returned (.slice A' n c') ∧ n ≤ c' ∧ Kd.R (Kd.int .u32) 56 w' w.heap.size (fun _ => True) (.slice A' n c') t ∧ Below w.heap.size w w' :=
  slice_form (nat_Trim.calls A c l t w hr hc (by rw [trim_f hok, ht])) hn
theorem trim_ok {l t : List Int} (h : trimL l = t) (hok : okN l = true) : okN t = true := by
  obtain ⟨h1, h2⟩ := okN_iff.1 hok
  rw [← h]
  exact okN_iff.2 ⟨Nat.le_trans (trimL_len_le l) h1, trimL_dig h2⟩
theorem cmp_call {ta tb : List Int} {na nb : Nat} (ka : okN ta = true) (kb : okN tb = true) (hna : ta.length = na) (hnb : tb.length = nb) (Aa : Option Addr) (ca : Nat) (Ab : Option Addr) (cb : Nat) (w : World) (h1 : Kd.C (Kd.int .u32) w Aa ta.length ta) (h2 : na ≤ ca) (h3 : Kd.C (Kd.int .u32) w Ab tb.length tb) (h4 : nb ≤ cb) :
    Calls Tryz.prog 28 #[.slice Aa na ca, .slice Ab nb cb] w fun e w' => e = .returned (.int .i64 (cmpN (valB 4294967296 ta) (valB 4294967296 tb))) ∧ Below w.heap.size w w' := by
  subst hna
  subst hnb
  exact nat_Cmp.calls Aa ca ta Ab cb tb _ w h1 h2 h3 h4 (by unfold nat_Cmp.f; rw [if_pos ⟨ka, kb⟩])
def quo_DivMod.f (l0 l1 : List Int) : Option (List Int × List Int × Int) :=
  if okN l0 = true ∧ okN l1 = true ∧ l0.length ≤ 1048000 ∧ l1.length ≤ 1048000 then (if valB 4294967296 l1 = 0 then some ([], [], 17) else some (digB 4294967296 (valB 4294967296 l0 / valB 4294967296 l1), digB 4294967296 (valB 4294967296 l0 % valB 4294967296 l1), 0)) else none
def DivPost (w : World) (q r : List Int) (x : Int) (e : Ending) (w' : World) : Prop := ∃ v0_ v1_ : Value, e = .returned (.tuple #[v0_, v1_, .int .i64 x]) ∧ Kd.R (Kd.int .u32) 56 w' w.heap.size (fun k_ => some k_ ≠ (v1_ : Value).ownBlock) v0_ q ∧ Kd.R (Kd.int .u32) 56 w' w.heap.size (fun k_ => some k_ ≠ (v0_ : Value).ownBlock) v1_ r ∧ Below w.heap.size w w'
theorem addr_zero (ad : Addr) : ad.add 0 = ad := by
  cases ad with
  | mk b o sp => cases sp <;> simp [Addr.add]
theorem uAt_C {W : World} {B : Nat} {us : List Int} (h : UAt W B us) (hl : us.length ≤ 1073741824) {j n : Nat} (hj : j + n ≤ us.length) : Kd.C (Kd.int .u32) W (some ⟨B, j, none⟩) ((us.drop j).take n).length ((us.drop j).take n) := by
  refine Kd.C_of_reads (d := (0 : Int)) ⟨rfl, ?_, fun _ => ⟨_, rfl, fun i hi => ?_⟩⟩
  · simp; omega
  · have hi' : i < n := by simp at hi; omega
    obtain ⟨k1, _⟩ := h.cell (j + i) (by omega)
    rw [show (⟨B, j, none⟩ : Addr).add i = ⟨B, j + i, none⟩ by simp [Addr.add], k1]
    simp [List.getElem?_take, hi', List.getElem?_drop, show j + i < us.length by omega]
theorem uAt_of_R {W : World} {base : Nat} {ok : Nat → Prop} {B : Nat} {us : List Int} {n : Nat} (h : Kd.R (Kd.int .u32) 56 W base ok (.slice (some ⟨B, 0, none⟩) n n) us) (hn : us.length = n) : UAt W B us := by
  have ho := Kd.own_of_R h
  obtain ⟨hlen, h2⟩ := ho
  rcases h2 with ⟨e, _⟩ | ⟨g, cap, cur, e, _, hh, _, _, hsz, hc⟩
  · cases e
  · cases e
    unfold UAt
    rw [hh]
    have : cur.toList = us.map (Value.int .u32) := by
      rw [← show encs (Value.int .u32) us = us.map (Value.int .u32) from rfl, ← hc, List.take_of_length_le (by simp [hsz, hn])]
    rw [← this]
theorem part_val {us : List Int} {j n : Nat} (hj : j + n < us.length) {x : Nat} (hx : us[j + n] = (x : Int)) : valB 4294967296 ((us.drop j).take (n + 1)) = valB 4294967296 ((us.drop j).take n) + 4294967296 ^ n * x := by
  rw [valB_take_succ (us.drop j) (by rw [List.length_drop]; omega)]
  congr 2
  simp only [limbN, List.getD_eq_getElem?_getD, List.getElem?_drop, List.getElem?_eq_getElem hj, Option.getD_some, hx, Int.toNat_natCast]
theorem midU_eq {us r : List Int} {j n : Nat} : midU us r j (n + 1) = us.take j ++ r ++ us.drop (j + n + 1) := by unfold midU; rw [show j + (n + 1) = j + n + 1 by omega]
theorem round_a {A V n L g : Nat} {us qs vs : List Int} {j : Nat} (h : DivAt 4294967296 A V n L us qs (j + 1)) (hV : V < 4294967296 ^ n) (hV0 : 0 < V) (hj : j + n < L) (hq : j < qs.length) (hvn : vs.length = n) (hv : DigB 4294967296 vs) (ev : valB 4294967296 vs = V)
    {x : Nat} (hx : us[j + n]'(by rw [h.len]; exact hj) = (x : Int)) (gk : GuessOk 4294967296 (valB 4294967296 ((us.drop j).take (n + 1))) V g) (hb : ¬ x < (takeP g us vs j n).2.1 + (takeP g us vs j n).2.2) :
    DivAt 4294967296 A V n L (midU us ((takeP g us vs j n).1 ++ [(((x + 4294967296 - (takeP g us vs j n).2.1 - (takeP g us vs j n).2.2) % 4294967296 : Nat) : Int)]) j (n + 1)) (qs.set j (g : Int)) j := by
  have hlen := h.len
  obtain ⟨h1, h2, h3⟩ := h.part (by decide) hV hj
  have hxm := h.dig us[j + n] (List.getElem_mem _)
  rw [hx] at hxm
  have hT : takeP g us vs j n = Base.takeB 4294967296 g ((us.drop j).take n) vs 0 0 := by unfold takeP; rw [List.take_of_length_le (l := vs) (by omega)]
  have hl : ((us.drop j).take n).length = vs.length := by simp; omega
  obtain ⟨pa, _⟩ := part_down (B := 4294967296) (q := g) (us := (us.drop j).take n) (vs := vs) (t := (x : Int)) (by decide) hl ((h.dig.drop j).take n) hv ⟨by omega, by omega⟩
    (U := valB 4294967296 ((us.drop j).take (n + 1))) (by rw [part_val (by omega) hx, Int.toNat_natCast, show ((us.drop j).take n).length = n by simp; omega]) ev.symm gk hV0 (d := (((x + 4294967296 - (takeP g us vs j n).2.1 - (takeP g us vs j n).2.2) % 4294967296 : Nat) : Int)) (b := 0) (by rw [hT, Int.toNat_natCast]) (by rw [if_neg (by rw [← hT, Int.toNat_natCast]; exact hb)])
  obtain ⟨p1, p2⟩ := pa rfl
  obtain ⟨t1, t2, t3, t4⟩ := takeP_spec gk.lt h.dig hv j n (by omega) (by omega)
  rw [midU_eq, hT]
  rw [hT] at t1 t4 p1
  refine h.next (by decide) hV hV0 hj hq (t1.append (DigB.cons (by omega) (by omega) (DigB.nil _))) (by simp [t4]) ?_ (by rw [p2, h1])
  rw [p1, h1]
theorem round_b {A V n L g : Nat} {us qs vs : List Int} {j : Nat} (h : DivAt 4294967296 A V n L us qs (j + 1)) (hV : V < 4294967296 ^ n) (hV0 : 0 < V) (hj : j + n < L) (hq : j < qs.length) (hvn : vs.length = n) (hv : DigB 4294967296 vs) (ev : valB 4294967296 vs = V)
    {x : Nat} (hx : us[j + n]'(by rw [h.len]; exact hj) = (x : Int)) (gk : GuessOk 4294967296 (valB 4294967296 ((us.drop j).take (n + 1))) V g) (hb : x < (takeP g us vs j n).2.1 + (takeP g us vs j n).2.2) {us1 : List Int} {d : Nat}
    (hd : (x + 4294967296 - (takeP g us vs j n).2.1 - (takeP g us vs j n).2.2) % 4294967296 = d) (h1 : us1 = midU us ((takeP g us vs j n).1 ++ [(d : Int)]) j (n + 1)) :
    1 ≤ g ∧ us1.length = L ∧ DigB 4294967296 us1 ∧ us1[j + n]? = some (d : Int) ∧ DivAt 4294967296 A V n L (midU us1 ((backP us1 vs j n).1 ++ [(((d + (backP us1 vs j n).2) % 4294967296 : Nat) : Int)]) j (n + 1)) (qs.set j ((g - 1 : Nat) : Int)) j := by
  have hlen := h.len
  obtain ⟨k1, k2, k3⟩ := h.part (by decide) hV hj
  have hxm := h.dig us[j + n] (List.getElem_mem _)
  rw [hx] at hxm
  have hT : takeP g us vs j n = Base.takeB 4294967296 g ((us.drop j).take n) vs 0 0 := by unfold takeP; rw [List.take_of_length_le (l := vs) (by omega)]
  have hl : ((us.drop j).take n).length = vs.length := by simp; omega
  obtain ⟨_, pb⟩ := part_down (B := 4294967296) (q := g) (us := (us.drop j).take n) (vs := vs) (t := (x : Int)) (by decide) hl ((h.dig.drop j).take n) hv ⟨by omega, by omega⟩
    (U := valB 4294967296 ((us.drop j).take (n + 1))) (by rw [part_val (by omega) hx, Int.toNat_natCast, show ((us.drop j).take n).length = n by simp; omega]) ev.symm gk hV0 (d := (d : Int)) (b := 1) (by rw [← hd, hT, Int.toNat_natCast]) (by rw [if_pos (by rw [← hT, Int.toNat_natCast]; exact hb)])
  obtain ⟨g1, p1, p2⟩ := pb rfl
  obtain ⟨t1, t2, t3, t4⟩ := takeP_spec gk.lt h.dig hv j n (by omega) (by omega)
  have hdl : d < 4294967296 := by rw [← hd]; exact Nat.mod_lt _ (by decide)
  have hr : ((takeP g us vs j n).1 ++ [(d : Int)]).length = n + 1 := by simp [t4]
  have hl1 : us1.length = L := by rw [h1, midU_len hr (by omega), hlen]
  have hD1 : DigB 4294967296 us1 := by
    rw [h1, midU_eq]
    exact ((h.dig.take j).append (t1.append (DigB.cons (by omega) (by omega) (DigB.nil _)))).append (h.dig.drop _)
  have htk : (us.take j).length = j := by rw [List.length_take]; omega
  have e1 : us1.take j = us.take j := by
    rw [h1, midU_eq, List.append_assoc, List.take_append_of_le_length (by omega), List.take_of_length_le (by omega)]
  have e2 : us1.drop j = ((takeP g us vs j n).1 ++ [(d : Int)]) ++ us.drop (j + n + 1) := by
    rw [h1, midU_eq, List.append_assoc, List.drop_append_of_le_length (by omega), List.drop_eq_nil_of_le (by omega), List.nil_append]
  have e3 : us1.drop (j + n + 1) = us.drop (j + n + 1) := by
    rw [show j + n + 1 = j + (n + 1) by omega, ← List.drop_drop, e2, List.drop_append_of_le_length (by omega), List.drop_eq_nil_of_le (by omega), List.nil_append]
    rfl
  have e4 : (us1.drop j).take n = (takeP g us vs j n).1 := by
    rw [e2, List.append_assoc, List.take_append_of_le_length (by omega), List.take_of_length_le (by omega)]
  have hB : backP us1 vs j n = backB 4294967296 (Base.takeB 4294967296 g ((us.drop j).take n) vs 0 0).1 vs 0 := by
    unfold backP
    rw [List.take_of_length_le (l := vs) (by omega), e4, hT]
  refine ⟨g1, hl1, hD1, ?_, ?_⟩
  · have : us1[j + n]? = (us1.drop j)[n]? := by rw [List.getElem?_drop]
    rw [this, e2, List.append_assoc, List.getElem?_append_right (by omega)]
    simp [t4]
  · rw [midU_eq, e1, e3, hB]
    obtain ⟨b2, b3, b4⟩ := backP_spec hD1 hv j n (by omega) (by omega)
    rw [hB] at b2 b3 b4
    have ey : (((d + (backB 4294967296 (Base.takeB 4294967296 g ((us.drop j).take n) vs 0 0).1 vs 0).2) % 4294967296 : Nat) : Int) = ((d : Int) + ((backB 4294967296 (Base.takeB 4294967296 g ((us.drop j).take n) vs 0 0).1 vs 0).2 : Int)) % ((4294967296 : Nat) : Int) := by rw [Int.natCast_emod, Int.natCast_add]
    refine h.next (by decide) hV hV0 hj hq (b2.append (DigB.cons (by omega) (by omega) (DigB.nil _))) (by simp [b4]) ?_ (by rw [p2, k1])
    rw [ey, p1, k1]
theorem lt_bitLenAux : ∀ (f x : Nat), x < 2 ^ f → x < 2 ^ (Lib.bitLenAux f x)
  | 0, x, h => by simpa [Lib.bitLenAux] using h
  | f + 1, x, h => by
    unfold Lib.bitLenAux
    by_cases h0 : x = 0
    · rw [if_pos h0, h0]; decide
    · rw [if_neg h0]
      have := lt_bitLenAux f (x / 2) (by rw [Nat.pow_succ] at h; omega)
      rw [Nat.pow_add, Nat.pow_one]; omega
theorem lt_bitLen {x : Nat} (h : x < 4294967296) : x < 2 ^ Lib.bitLen x := lt_bitLenAux 64 x (by omega)
theorem info22 : (Tryz.prog.info? 56).map (·.size) = some 1 := by kernel_rfl
theorem mk_u32 (t : TypeId) (ht : Tryz.prog.underlying t = some (.slice 56)) (m : Nat) (i : Int) (hi : i = (m : Int)) (hm : m ≤ 1073741824) :
    ∀ W : World, (Instr.makeSlice t (.int .i64 i) (.int .i64 i)).run Tryz.prog W = .ok (.slice (some ⟨W.heap.size, 0, none⟩) m m) (W.alloc (.cells (madeCells #[.int .u32 0] m) 56)) := by
  subst hi
  exact print_make (P := Tryz.prog) t 56 .u32 4 ht infoU32 (by decide) m (by omega)
theorem made_R (W : World) (m : Nat) (hm : m ≤ 1073741824) : Kd.R (Kd.int .u32) 56 (W.alloc (.cells (madeCells #[.int .u32 0] m) 56)) W.heap.size (fun k => k = W.heap.size) (.slice (some ⟨W.heap.size, 0, none⟩) m m) (List.replicate m 0) :=
  Kd.R_of_own (own_made' W W.heap.size 56 .u32 m (Nat.le_refl _) (by omega)) (fun k hk => by simpa [Value.ownBlock, eq_comm] using hk)
section
variable (A0 : Option Addr) (c0 : Nat) (l0 : List Int) (A1 : Option Addr) (c1 : Nat) (l1 : List Int) (w : World) (hr0 : Kd.C (Kd.int .u32) w A0 l0.length l0) (hc0 : l0.length ≤ c0) (hr1 : Kd.C (Kd.int .u32) w A1 l1.length l1) (hc1 : l1.length ≤ c1)
  (ok0 : okN l0 = true) (ok1 : okN l1 = true) (ta tb : List Int) (na nb : Nat) (hta : trimL l0 = ta) (htb : trimL l1 = tb) (hna : ta.length = na) (hnb : tb.length = nb)
include hr0 hc0 hr1 hc1 ok0 ok1 hta htb hna hnb
set_option maxRecDepth 100000 in
set_option maxHeartbeats 4000000 in
theorem div_zero_calls (h0 : nb = 0) : Calls Tryz.prog 115 #[.slice A0 l0.length c0, .slice A1 l1.length c1] w (DivPost w [] [] 17) := by
  have T0 := trim_call hta hna ok0 A0 c0
  have T1 := trim_call htb hnb ok1 A1 c1
  have HR0 := Aside0.mk hr0
  have HR1 := Aside0.mk hr1
  subst h0
  clear hr0 hr1 hta htb
  go_enter Tryz.func115, Tryz.ntmps115
  go_wp2_with (first | (go_at_call 45; (with_reducible refine (T0 _ HR0.out hc0).mono ?_); rintro e w1 ⟨Aa, ca, rfl, hca, hra, hb1⟩) | (go_at_call 45; (with_reducible refine (T1 _ (Kd.cB9 HR1.out hb1) hc1).mono ?_); rintro e w2 ⟨Ab, cb, rfl, hcb, hrb, hb2⟩))
  go_ret3
  exact ⟨_, _, rfl, Kd.R_nil _ _ _ _ _, Kd.R_nil _ _ _ _ _, hb1.trans (hb2.mono hb1.size)⟩
set_option maxRecDepth 100000 in
set_option maxHeartbeats 8000000 in
theorem div_less_calls (h0 : nb ≠ 0) (hlt : valB 4294967296 ta < valB 4294967296 tb) : Calls Tryz.prog 115 #[.slice A0 l0.length c0, .slice A1 l1.length c1] w (DivPost w [] ta 0) := by
  have T0 := trim_call hta hna ok0 A0 c0
  have T1 := trim_call htb hnb ok1 A1 c1
  have HR0 := Aside0.mk hr0
  have HR1 := Aside0.mk hr1
  have CMP := fun Aa ca Ab cb W k1 k2 k3 k4 => cmp_call (ta := ta) (tb := tb) (trim_ok hta ok0) (trim_ok htb ok1) hna hnb Aa ca Ab cb W k1 k2 k3 k4
  rw [show cmpN (valB 4294967296 ta) (valB 4294967296 tb) = -1 by unfold cmpN; rw [if_pos hlt]] at CMP
  have hd0 : ((nb : Int) == 0) = false := beq_eq_false_iff_ne.mpr (by omega)
  have HNA := Aside0.mk hna
  have HNB := Aside0.mk hnb
  clear hr0 hr1 hta htb hna hnb
  go_enter Tryz.func115, Tryz.ntmps115
  go_wp2_with (first | (go_at_call 45; (with_reducible refine (T0 _ HR0.out hc0).mono ?_); rintro e w1 ⟨Aa, ca, rfl, hca, hra, hb1⟩; have HRA := Aside0.mk hra; clear hra) | (go_at_call 45; (with_reducible refine (T1 _ (Kd.cB9 HR1.out hb1) hc1).mono ?_); rintro e w2 ⟨Ab, cb, rfl, hcb, hrb, hb2⟩; have HRB := Aside0.mk hrb; clear hrb) | (go_at_call 28; refine (CMP _ _ _ _ _ (C_of_R (Kd.rB9 HRA.out hb2) HNA.out) hca (C_of_R HRB.out HNB.out) hcb).mono ?_; rintro e w3 ⟨rfl, hb3⟩))
  go_ret3
  refine ⟨_, _, rfl, Kd.R_nil _ _ _ _ _, ?_, (hb1.trans (hb2.mono hb1.size)).trans (hb3.mono (Nat.le_trans hb1.size hb2.size))⟩
  exact Kd.R_mono (Kd.rB9 (Kd.rB9 HRA.out hb2) hb3) (fun k _ h => by cases h)
set_option maxRecDepth 100000 in
set_option maxHeartbeats 8000000 in
theorem div_one_calls (h1 : nb = 1) (hle : valB 4294967296 tb ≤ valB 4294967296 ta) (h0 : valB 4294967296 tb ≠ 0) : Calls Tryz.prog 115 #[.slice A0 l0.length c0, .slice A1 l1.length c1] w (DivPost w (digB 4294967296 (valB 4294967296 ta / valB 4294967296 tb)) (digB 4294967296 (valB 4294967296 ta % valB 4294967296 tb)) 0) := by
  have T0 := trim_call hta hna ok0 A0 c0
  have T1 := trim_call htb hnb ok1 A1 c1
  have HR0 := Aside0.mk hr0
  have HR1 := Aside0.mk hr1
  obtain ⟨c, hc⟩ : ∃ c, cmpN (valB 4294967296 ta) (valB 4294967296 tb) = c := ⟨_, rfl⟩
  have CMP := fun Aa ca Ab cb W k1 k2 k3 k4 => cmp_call (ta := ta) (tb := tb) (trim_ok hta ok0) (trim_ok htb ok1) hna hnb Aa ca Ab cb W k1 k2 k3 k4
  rw [hc] at CMP
  have hc0' : decide (c < 0) = false := decide_eq_false (by rw [← hc]; unfold cmpN; rw [if_neg (by omega)]; split <;> omega)
  have hok := trim_ok hta ok0
  have hokb := (okN_iff.1 (trim_ok htb ok1)).2
  obtain ⟨d, rfl⟩ : ∃ d, tb = [d] := by
    match tb, hnb.trans h1 with
    | [d], _ => exact ⟨d, rfl⟩
  have hdd := hokb d (by simp)
  obtain ⟨y, rfl⟩ : ∃ y : Nat, d = y := ⟨d.toNat, by omega⟩
  have hv : valB 4294967296 [(y : Int)] = y := by rw [valB_cons, valB_nil]; simp
  rw [hv] at h0 hle ⊢
  have SH := fun A c W k1 k2 => quo_ShortC.calls A c ta (y : Int) (digB 4294967296 (valB 4294967296 ta / y)) ((valB 4294967296 ta % y : Nat) : Int) 0 W k1 k2 (by
    unfold quo_ShortC.f
    rw [if_pos ⟨hok, by omega, by omega⟩, if_neg (by omega), Int.toNat_natCast])
  obtain ⟨m, hm⟩ : ∃ m, valB 4294967296 ta % y = m := ⟨_, rfl⟩
  have hmlt : m < y := by rw [← hm]; exact Nat.mod_lt _ (by omega)
  rw [hm] at SH
  rw [hm]
  have hw : IntKind.u64.wrap (m : Int) = (m : Int) := u64_id (by omega)
  have OF := fun W => nat_Of.calls (m : Int) (digB 4294967296 m) W (by unfold nat_Of.f; rw [if_pos (by omega), Int.toNat_natCast])
  rw [hna] at SH
  have HNA := Aside0.mk hna
  have HC1 := Aside0.mk hc1
  clear hr0 hr1 hta htb hna hokb hm hc hv
  have HNB := Aside0.mk hnb
  subst h1
  clear hnb
  go_enter Tryz.func115, Tryz.ntmps115
  go_wp2_with (first | (go_at_call 45; (with_reducible refine (T0 _ HR0.out hc0).mono ?_); rintro e w1 ⟨Aa, ca, rfl, hca, hra, hb1⟩; have HRA := Aside0.mk hra; clear hra) | (go_at_call 45; (with_reducible refine (T1 _ (Kd.cB9 HR1.out hb1) hc1).mono ?_); rintro e w2 ⟨Ab, cb, rfl, hcb, hrb, hb2⟩; have HRB := Aside0.mk hrb; clear hrb) | (go_at_call 28; refine (CMP _ _ _ _ _ (C_of_R (Kd.rB9 HRA.out hb2) HNA.out) hca (C_of_R HRB.out HNB.out) hcb).mono ?_; rintro e w3 ⟨rfl, hb3⟩; obtain ⟨ad, hA, hcell⟩ := Kd.at_int (C_of_R (Kd.rB9 HRB.out hb3) HNB.out) 0 (by decide) (by simp); cases hA; replace hcell := hcell.trans (show some (Value.int .u32 (rd [(y : Int)] 0)) = some (.int .u32 (y : Int)) from rfl); rw [show (0 : Int).toNat = 0 from rfl, addr_zero] at hcell) | (go_at_call 46; refine (SH _ _ _ (HNA.out ▸ C_of_R (Kd.rB9 (Kd.rB9 HRA.out hb2) hb3) HNA.out) hca).mono ?_; rintro e w4 ⟨v4, rfl, hr4, hb4⟩; obtain ⟨Aq, cq, rfl⟩ := Kd.rS9 hr4) | (go_at_call 30; refine (OF _).mono ?_; rintro e w5 ⟨v5, rfl, hr5, hb5⟩))
  go_ret3
  have e5 : Below w4.heap.size w4 w5 := hb5
  have q5 := Kd.R_elder hr4 hr5 (hb5)
  have r5 := Kd.R_newR hr5 hr4
  have s3 : w.heap.size ≤ w3.heap.size := Nat.le_trans hb1.size (Nat.le_trans hb2.size hb3.size)
  have s4 : w.heap.size ≤ w4.heap.size := Nat.le_trans s3 hb4.size
  refine ⟨_, _, rfl, Kd.R_mono (Kd.rL9 q5 s3) (fun k hk => hk.2), Kd.R_mono (Kd.rL9 r5 s4) (fun k hk => hk.2), ?_⟩
  exact (((hb1.trans (hb2.mono hb1.size)).trans (hb3.mono (Nat.le_trans hb1.size hb2.size))).trans (hb4.mono s3)).trans (hb5.mono s4)
set_option maxRecDepth 100000 in
set_option maxHeartbeats 16000000 in
theorem div_main_calls (h2 : 2 ≤ nb) (hle : valB 4294967296 tb ≤ valB 4294967296 ta) (hcan : tb.getLast? ≠ some 0) (hcana : ta.getLast? ≠ some 0) (hlen : na ≤ 1048000) : Calls Tryz.prog 115 #[.slice A0 l0.length c0, .slice A1 l1.length c1] w (DivPost w (digB 4294967296 (valB 4294967296 ta / valB 4294967296 tb)) (digB 4294967296 (valB 4294967296 ta % valB 4294967296 tb)) 0) := by
  have T0 := trim_call hta hna ok0 A0 c0
  have T1 := trim_call htb hnb ok1 A1 c1
  have HR0 := Aside0.mk hr0
  have HR1 := Aside0.mk hr1
  obtain ⟨c, hc⟩ : ∃ c, cmpN (valB 4294967296 ta) (valB 4294967296 tb) = c := ⟨_, rfl⟩
  have CMP := fun Aa ca Ab cb W k1 k2 k3 k4 => cmp_call (ta := ta) (tb := tb) (trim_ok hta ok0) (trim_ok htb ok1) hna hnb Aa ca Ab cb W k1 k2 k3 k4
  rw [hc] at CMP
  have hc0' : decide (c < 0) = false := decide_eq_false (by rw [← hc]; unfold cmpN; rw [if_neg (by omega)]; split <;> omega)
  have hd0 : ((nb : Int) == 0) = false := beq_eq_false_iff_ne.mpr (by omega)
  have hd1 : ((nb : Int) == 1) = false := beq_eq_false_iff_ne.mpr (by omega)
  have oka := trim_ok hta ok0
  have okb := trim_ok htb ok1
  obtain ⟨lb, db⟩ := okN_iff.1 okb
  obtain ⟨la, da⟩ := okN_iff.1 oka
  obtain ⟨va, hva⟩ : ∃ va, valB 4294967296 ta = va := ⟨_, rfl⟩
  obtain ⟨vb, hvb⟩ : ∃ vb, valB 4294967296 tb = vb := ⟨_, rfl⟩
  obtain ⟨hxr, hx2⟩ := rd_nat db (show nb - 1 < tb.length by omega)
  obtain ⟨x, hx⟩ : ∃ x, limbN tb (nb - 1) = x := ⟨_, rfl⟩
  rw [hx] at hxr hx2
  have hx0 : 1 ≤ x := by
    rcases Nat.eq_zero_or_pos x with h0 | h0
    · exfalso; apply hcan
      rw [List.getLast?_eq_getElem?, hnb, List.getElem?_eq_getElem (by omega)]
      have := db tb[nb - 1] (List.getElem_mem _)
      simp only [limbN, List.getD_eq_getElem?_getD, List.getElem?_eq_getElem (show nb - 1 < tb.length by omega), Option.getD_some] at hx
      congr 1; omega
    · exact h0
  have hxb := lt_bitLen hx2
  have hxe := Any.bitLen_le32 (x : Int) (by omega) (by omega)
  rw [Int.toNat_natCast] at hxe
  have hxp : 1 ≤ Lib.bitLen x := by
    rcases Nat.eq_zero_or_pos (Lib.bitLen x) with h0 | h0
    · rw [h0] at hxb; simp at hxb; omega
    · exact h0
  have LEAD := fun W => Any.bits_LeadingZeros32 Tryz.layLead32 (x : Int) W (by omega) (by omega)
  rw [Int.toNat_natCast] at LEAD
  obtain ⟨s, hs⟩ : ∃ s, 32 - Lib.bitLen x = s := ⟨_, rfl⟩
  rw [show (32 : Int) - ((Lib.bitLen x : Nat) : Int) = (s : Int) by omega] at LEAD
  have hs32 : s < 32 := by omega
  have hvbl : vb < 4294967296 ^ (nb - 1) * (x + 1) := by
    have := valB_take_succ (B := 4294967296) tb (show nb - 1 < tb.length by omega)
    rw [show nb - 1 + 1 = nb by omega, List.take_of_length_le (by omega), hx, hvb] at this
    have h2 := valB_lt 4294967296 (tb.take (nb - 1)) (db.take _)
    rw [List.length_take, Nat.min_eq_left (by omega)] at h2
    rw [Nat.mul_add, Nat.mul_one]; omega
  have hvbg : 4294967296 ^ (nb - 1) ≤ vb := by
    have := (GoodB.mk db hcan : GoodB 4294967296 tb).len_lt (by intro e; rw [e] at hnb; simp at hnb; omega)
    rwa [hnb, hvb] at this
  have hVlt : 2 ^ s * vb < 4294967296 ^ nb := by
    have h3 : x + 1 ≤ 2 ^ (32 - s) := by rw [show 32 - s = Lib.bitLen x by omega]; exact hxb
    have h4 : 2 ^ s * vb < 2 ^ s * (4294967296 ^ (nb - 1) * (x + 1)) := Nat.mul_lt_mul_of_pos_left hvbl (Nat.two_pow_pos _)
    have h5 : 2 ^ s * (4294967296 ^ (nb - 1) * (x + 1)) ≤ 2 ^ s * (4294967296 ^ (nb - 1) * 2 ^ (32 - s)) := Nat.mul_le_mul_left _ (Nat.mul_le_mul_left _ h3)
    have h6 : 2 ^ s * (4294967296 ^ (nb - 1) * 2 ^ (32 - s)) = 4294967296 ^ nb := by
      rw [Nat.mul_left_comm, ← two_pow_split s hs32, ← Nat.pow_succ]; congr 1; omega
    omega
  have hVge : 4294967296 ^ (nb - 1) ≤ 2 ^ s * vb := by
    have : 1 * vb ≤ 2 ^ s * vb := Nat.mul_le_mul_right _ (Nat.two_pow_pos _)
    omega
  obtain ⟨vs, hvs⟩ : ∃ vs, digB 4294967296 (2 ^ s * vb) = vs := ⟨_, rfl⟩
  have hvsn : vs.length = nb := by
    rw [← hvs]
    have h3 := digB_len (by decide) hVlt
    have h4 := digB_len_ge (by decide) hVge
    omega
  have gvs : GoodB 4294967296 vs := by rw [← hvs]; exact digB_good _ (by decide) _
  have evs : valB 4294967296 vs = 2 ^ s * vb := by rw [← hvs]; exact digB_val _ (by decide) _
  have SHB := fun A cc W k1 k2 => slice_form (nat_Shl.calls A cc tb (s : Int) vs W k1 k2 (by unfold nat_Shl.f; rw [if_pos ⟨okb, by omega, by omega⟩, Int.toNat_natCast, hvb, hvs])) hvsn
  obtain ⟨ys, hys⟩ : ∃ ys, digB 4294967296 (2 ^ s * va) = ys := ⟨_, rfl⟩
  obtain ⟨ny, hny⟩ : ∃ ny, ys.length = ny := ⟨_, rfl⟩
  have hvalt : va < 4294967296 ^ na := by rw [← hva, ← hna]; exact valB_lt _ _ da
  have hysn : ny ≤ na + 1 := by
    rw [← hny, ← hys]
    refine digB_len (by decide) ?_
    rw [Nat.pow_succ, Nat.mul_comm]
    exact Nat.mul_lt_mul_of_lt_of_le hvalt (show 2 ^ s ≤ 4294967296 from Nat.le_trans (Nat.pow_le_pow_right (by decide) (show s ≤ 32 by omega)) (by decide)) (by decide)
  have dys : DigB 4294967296 ys := by rw [← hys]; exact (digB_good _ (by decide) _).dig
  have eys : valB 4294967296 ys = 2 ^ s * va := by rw [← hys]; exact digB_val _ (by decide) _
  have SHA := fun A cc W k1 k2 => slice_form (nat_Shl.calls A cc ta (s : Int) ys W k1 k2 (by unfold nat_Shl.f; rw [if_pos ⟨oka, by omega, by omega⟩, Int.toNat_natCast, hva, hys])) hny
  rw [hna] at SHA
  rw [hnb] at SHB
  have hnba : nb ≤ na := by
    have h3 : 4294967296 ^ (nb - 1) < 4294967296 ^ na := by omega
    have := (Nat.pow_lt_pow_iff_right (show 1 < 4294967296 by decide)).1 h3
    omega
  have MKU := mk_u32 22 Tryz.underlying22 (na + 1) ((na : Int) + 1) (by omega) (by omega)
  have MKQ := mk_u32 23 Tryz.underlying23 (na - nb + 1) ((na : Int) - (nb : Int) + 1) (by omega) (by omega)
  have HNA := Aside0.mk hna
  have HNB := Aside0.mk hnb
  have HNY := Aside0.mk hny
  have HVA := Aside0.mk hva
  have HVB := Aside0.mk hvb
  have hxi : (nb : Int) - 1 = ((nb - 1 : Nat) : Int) := by omega
  have q1 : (0 : Int) ≤ (nb : Int) - 1 := by omega
  have q2 : (nb : Int) - 1 < (nb : Int) := by omega
  have q3 : ((nb : Int) - 1).toNat = nb - 1 := by omega
  clear hr0 hr1 hta htb hna hnb hc hva hvb hx hs hvs hys hny
  go_enter Tryz.func115, Tryz.ntmps115
  go_wp2_with (first | (go_at_call 45; (with_reducible refine (T0 _ HR0.out hc0).mono ?_); rintro e w1 ⟨Aa, ca, rfl, hca, hra, hb1⟩; have HRA := Aside0.mk hra; clear hra) | (go_at_call 45; (with_reducible refine (T1 _ (Kd.cB9 HR1.out hb1) hc1).mono ?_); rintro e w2 ⟨Ab, cb, rfl, hcb, hrb, hb2⟩; have HRB := Aside0.mk hrb; clear hrb) | (go_at_call 28; refine (CMP _ _ _ _ _ (C_of_R (Kd.rB9 HRA.out hb2) HNA.out) hca (C_of_R HRB.out HNB.out) hcb).mono ?_; rintro e w3 ⟨rfl, hb3⟩; obtain ⟨ad, hA, hcell⟩ := Kd.at_int (C_of_R (Kd.rB9 HRB.out hb3) HNB.out) ((nb - 1 : Nat) : Int) (by omega) (by rw [HNB.out]; omega); cases hA; rw [hxr, Int.toNat_natCast] at hcell) | (go_at_call 129; refine (LEAD _).mono ?_; rintro e w3' ⟨rfl, rfl⟩) | (go_at_call 130; (with_reducible refine (SHB _ _ _ (HNB.out ▸ C_of_R (Kd.rB9 HRB.out hb3) HNB.out) hcb).mono ?_); rintro e w4 ⟨Av, cv, rfl, hcv, hrv, hb4⟩; have HRV := Aside0.mk hrv; clear hrv) | (go_at_call 130; (with_reducible refine (SHA _ _ _ (HNA.out ▸ C_of_R (Kd.rB9 (Kd.rB9 (Kd.rB9 (Kd.rB9 HRA.out hb2) hb3) hb4) (bA9 (Below.refl _ _) _)) HNA.out) hca).mono ?_); rintro e w5 ⟨At, ct, rfl, hct, hrt, hb5⟩; have HRT := Aside0.mk hrt; clear hrt) | ((with_reducible refine gate_builtin (b := .copy) (xs := #[.tmp 63, .tmp 66]) rfl ?_); go_loud (refine Kd.R_copy (0 : Int) (w0 := w4) w4.heap.size rfl (.tmp 63) (.tmp 66) 22 23 56 rfl Tryz.underlying22 info22 (.slice (some ⟨w4.heap.size, 0, none⟩) (na + 1) (na + 1)) (List.replicate (na + 1) 0) ys At ny ct (fun k => k = w4.heap.size) rfl rfl (Kd.rB9 (made_R w4 (na + 1) (by omega)) hb5) (HNY.out ▸ C_of_R HRT.out HNY.out) ((bA9 (Below.refl _ _) _).trans (hb5.mono (by simp))) (Nat.le_trans (by simp) hb5.size) ?_); intro w6 hu6 hb6 hg6; have HU6 := Aside0.mk hu6; have HG6 := Aside0.mk hg6; clear hu6 hg6))
  obtain ⟨us0, hus0⟩ : ∃ us0, ys.take (min ny (List.replicate (na + 1) (0 : Int)).length) ++ (List.replicate (na + 1) (0 : Int)).drop (min ny (List.replicate (na + 1) (0 : Int)).length) = us0 := ⟨_, rfl⟩
  rw [hus0] at HU6
  have hmin : min ny (List.replicate (na + 1) (0 : Int)).length = ny := by rw [List.length_replicate]; omega
  rw [hmin, List.take_of_length_le (by rw [HNY.out]; exact Nat.le_refl _), List.drop_replicate] at hus0
  have du0 : DigB 4294967296 us0 := by rw [← hus0]; exact dys.append (DigB.zeros _ (by decide) _)
  have lu0 : us0.length = na + 1 := by rw [← hus0, List.length_append, HNY.out, List.length_replicate]; omega
  have eu0 : valB 4294967296 us0 = 2 ^ s * va := by rw [← hus0, valB_append, valB_zeros, Nat.mul_zero, Nat.add_zero, eys]
  have U6 : UAt w6 w4.heap.size us0 := uAt_of_R HU6.out lu0
  have START := Aside0.mk (divAt_start (B := 4294967296) (A0 := va) (V0 := vb) (S := 2 ^ s) (n := nb) (la := na) (by decide) (Nat.two_pow_pos _) hvalt hvbg (by omega) hnba du0 lu0 eu0)
  have hb6' : Below w.heap.size w w4 := ((hb1.trans (hb2.mono hb1.size)).trans (hb3.mono (Nat.le_trans hb1.size hb2.size))).trans (hb4.mono (Nat.le_trans hb1.size (Nat.le_trans hb2.size hb3.size)))
  have HB7 := Aside0.mk (show Below w.heap.size w (w6.alloc (.cells (madeCells #[.int .u32 0] (na - nb + 1)) 56)) from bA9 (hb6'.trans (hb6.mono hb6'.size)) _)
  have h46 : w4.heap.size + 1 ≤ w6.heap.size := by
    have h1 := hb5.size
    have h2 := HG6.out.size
    rw [World.size_alloc] at h1
    omega
  have RV6 : Kd.R (Kd.int .u32) 56 w6 w.heap.size (fun k => k ≠ w4.heap.size) (.slice Av nb cv) vs := by
    have h1 := Kd.R_elderB HRV.out w4.heap.size (Nat.le_refl _)
    have h2 := Kd.rB9 (Kd.rB9 h1 (bA9 (Below.refl _ _) _)) hb5
    have h3 := Kd.R_grown h2 HG6.out (fun k hk => by rintro e; cases e; exact hk.2 rfl)
    exact Kd.rL9 (Kd.R_mono h3 (fun k hk => hk.2)) (Nat.le_trans hb1.size (Nat.le_trans hb2.size hb3.size))
  have RV7 := Aside0.mk (Kd.R_mono (Kd.rB9 (Kd.R_elderB RV6 w6.heap.size (Nat.le_refl _)) (bA9 (Below.refl w6.heap.size w6) (.cells (madeCells #[.int .u32 0] (na - nb + 1)) 56))) (ok' := fun k => k ≠ w4.heap.size ∧ k ≠ w6.heap.size) (fun k hk => hk))
  have RQ7 := Aside0.mk (made_R w6 (na - nb + 1) (by omega))
  have U7 := Aside0.mk (show UAt (w6.alloc (.cells (madeCells #[.int .u32 0] (na - nb + 1)) 56)) w4.heap.size us0 from (Below.heap_alloc _ _ _ (by omega)).trans U6)
  have H46 := Aside0.mk h46
  have HBW := Aside0.mk hb6'.size
  clear hus0 hmin U6 RV6 h46 hb6' hb1 hb2 hb3 hb4 hb5 hb6 hcell T0 T1 CMP LEAD SHB SHA MKU MKQ
  go_loopw [14] (fun v14 wr => ∃ (i : Nat) (us qs : List Int), v14 = .int .i64 ((i : Int) - 1) ∧ i ≤ na - nb + 1 ∧ Aside0 (DivAt 4294967296 (2 ^ s * va) (2 ^ s * vb) nb (na + 1) us qs i) ∧ Aside0 (qs.length = na - nb + 1) ∧ Aside0 (UAt wr w4.heap.size us) ∧ Aside0 (Kd.R (Kd.int .u32) 56 wr w6.heap.size (fun k => k = w6.heap.size) (.slice (some ⟨w6.heap.size, 0, none⟩) (na - nb + 1) (na - nb + 1)) qs) ∧ Aside0 (Kd.R (Kd.int .u32) 56 wr w.heap.size (fun k => k ≠ w4.heap.size ∧ k ≠ w6.heap.size) (.slice Av nb cv) vs) ∧ Aside0 (Below w.heap.size w wr)) (fun v14 _ => ((intOf v14) + 1).toNat)
  case atStart => exact ⟨na - nb + 1, us0, List.replicate (na - nb + 1) 0, by (congr 1; omega), Nat.le_refl _, START, ⟨by simp⟩, U7, RQ7, RV7, HB7⟩
  case round =>
    obtain ⟨i, us, qs, rfl, hi, HD, HQL, HU, HQ, HV, HB⟩ := hrel
    by_cases h0 : i = 0
    · subst h0
      obtain ⟨dq, dr⟩ := HD.out.done (Nat.mul_pos (Nat.two_pow_pos _) (by have := Nat.pow_pos (n := nb - 1) (show 0 < 4294967296 by decide); omega))
      obtain ⟨ds1, ds2⟩ := div_shifted (A := va) (V := vb) (S := 2 ^ s) (Nat.two_pow_pos _)
      rw [ds1] at dq
      have okq : okN qs = true := okN_iff.2 ⟨by rw [HQL.out]; omega, HD.out.qdig⟩
      have oku : okN us = true := okN_iff.2 ⟨by rw [HD.out.len]; omega, HD.out.dig⟩
      have tq : trimL qs = digB 4294967296 (va / vb) := by rw [trimL_eq (by decide) HD.out.qdig, dq]
      obtain ⟨tu, htu⟩ : ∃ tu, trimL us = tu := ⟨_, rfl⟩
      have etu : valB 4294967296 tu = 2 ^ s * va % (2 ^ s * vb) := by rw [← htu, trimL_val, dr]
      have oktu := trim_ok htu oku
      have ltu := trimL_len_le us
      obtain ⟨nu, hnu⟩ : ∃ nu, tu.length = nu := ⟨_, rfl⟩
      obtain ⟨nq, hnq⟩ : ∃ nq, (digB 4294967296 (va / vb)).length = nq := ⟨_, rfl⟩
      have TQ := fun W k1 k2 => trim_call tq hnq okq (some ⟨w6.heap.size, 0, none⟩) (na - nb + 1) W k1 k2
      have TU := fun W k1 k2 => trim_call htu hnu oku (some ⟨w4.heap.size, 0, none⟩) (na + 1) W k1 k2
      have SHR := fun A cc W k1 k2 => nat_Shr.calls A cc tu (s : Int) (digB 4294967296 (va % vb)) W k1 k2 (by unfold nat_Shr.f; rw [if_pos ⟨oktu, by omega, by omega⟩, Int.toNat_natCast, etu, ds2])
      rw [HQL.out] at TQ
      rw [HD.out.len] at TU
      rw [hnu] at SHR
      have CQ := C_of_R HQ.out HQL.out
      rw [HQL.out] at CQ
      have CU : Kd.C (Kd.int .u32) wr (some ⟨w4.heap.size, 0, none⟩) (na + 1) us := by
        have h := uAt_C HU.out (by rw [HD.out.len]; omega) (j := 0) (n := na + 1) (by rw [HD.out.len]; omega)
        rw [List.drop_zero, List.take_of_length_le (by rw [HD.out.len]; exact Nat.le_refl _), HD.out.len] at h
        exact h
      have CQ := Aside0.mk CQ
      have CU := Aside0.mk CU
      have HNU := Aside0.mk hnu
      clear tq htu hnu hnq etu ltu dq dr ds1 ds2
      go_wp2_with (first | (go_at_call 45; (with_reducible refine (TQ _ CQ.out (Nat.le_refl _)).mono ?_); rintro e x1 ⟨Bq, cq, rfl, hcq, hrq, hx1⟩; have RQ := Aside0.mk hrq; clear hrq) | (go_at_call 45; (with_reducible refine (TU _ (Kd.cB9 CU.out hx1) (Nat.le_refl _)).mono ?_); rintro e x2 ⟨Bu, cu, rfl, hcu, hru, hx2⟩; have RU := Aside0.mk hru; clear hru) | (go_at_call 134; refine (SHR _ _ _ (HNU.out ▸ C_of_R RU.out HNU.out) hcu).mono ?_; rintro e x3 ⟨v3, rfl, hr3, hx3⟩))
      go_ret3
      have hy : Below wr.heap.size wr x2 := hx1.trans (hx2.mono hx1.size)
      have q5 := Kd.R_elder (Kd.rB9 RQ.out hx2) hr3 hx3
      have r5 := Kd.R_newR hr3 (Kd.rB9 RQ.out hx2)
      rw [HVA.out, HVB.out]
      refine ⟨_, _, rfl, Kd.R_mono (Kd.rL9 q5 HB.out.size) (fun k hk => hk.2), Kd.R_mono (Kd.rL9 r5 (Nat.le_trans HB.out.size hy.size)) (fun k hk => hk.2), ?_⟩
      exact (HB.out.trans (hy.mono HB.out.size)).trans (hx3.mono (Nat.le_trans HB.out.size hy.size))
    · obtain ⟨j, rfl⟩ : ∃ j, i = j + 1 := ⟨i - 1, by omega⟩
      have hd : decide ((0 : Int) ≤ (j : Int)) = true := decide_eq_true (by omega)
      have ej : ((j + 1 : Nat) : Int) - 1 = (j : Int) := by omega
      rw [ej]
      have hjn : j + nb < na + 1 := by omega
      obtain ⟨g1, g2, g3⟩ := HD.out.part (by decide) hVlt hjn
      have hPl : ((us.drop j).take (nb + 1)).length = nb + 1 := by simp [HD.out.len]; omega
      have hv1 : 1 ≤ limbN vs (nb - 1) := by
        rcases Nat.eq_zero_or_pos (limbN vs (nb - 1)) with hz | hz
        · exfalso; apply gvs.can
          rw [List.getLast?_eq_getElem?, hvsn, List.getElem?_eq_getElem (by omega)]
          have := gvs.dig vs[nb - 1] (List.getElem_mem _)
          simp only [limbN, List.getD_eq_getElem?_getD, List.getElem?_eq_getElem (show nb - 1 < vs.length by omega), Option.getD_some] at hz
          congr 1; omega
        · exact hz
      obtain ⟨kg, g, hg, gk⟩ := guess_f (u := (us.drop j).take (nb + 1)) (v := vs) (n := nb) hvsn hPl h2 (by omega) ((HD.out.dig.drop j).take _) gvs.dig hv1 (by rw [g1, evs]; exact g2)
      rw [evs] at gk
      have GUESS := fun W k1 k2 => quo_guess.calls kg (some ⟨w4.heap.size, j, none⟩) (na + 1 - j) ((us.drop j).take (nb + 1)) Av cv vs (g : Int) W k1 (by rw [hPl]; omega) k2 (by rw [hvsn]; exact hcv) hg
      have CP := uAt_C HU.out (by rw [HD.out.len]; omega) (j := j) (n := nb + 1) (by rw [HD.out.len]; omega)
      rw [hPl] at GUESS CP
      rw [hvsn] at GUESS
      have CV : Kd.C (Kd.int .u32) wr Av nb vs := hvsn ▸ C_of_R HV.out hvsn
      have hjl : j + nb < us.length := by rw [HD.out.len]; exact hjn
      have hus := HD.out.dig us[j + nb] (List.getElem_mem hjl)
      obtain ⟨y, hy⟩ : ∃ y : Nat, us[j + nb] = (y : Int) := ⟨us[j + nb].toNat, by omega⟩
      have CVG : ∀ W W', Kd.R (Kd.int .u32) 56 W w.heap.size (fun k => k ≠ w4.heap.size ∧ k ≠ w6.heap.size) (.slice Av nb cv) vs → W.grownBy W' (some w4.heap.size) → Kd.R (Kd.int .u32) 56 W' w.heap.size (fun k => k ≠ w4.heap.size ∧ k ≠ w6.heap.size) (.slice Av nb cv) vs := fun W W' hR hG => Kd.R_grown hR hG (fun k hk => by rintro e; cases e; exact hk.1 rfl)
      have TAKE := fun W (hU : UAt W w4.heap.size us) (hR : Kd.R (Kd.int .u32) 56 W w.heap.size (fun k => k ≠ w4.heap.size ∧ k ≠ w6.heap.size) (.slice Av nb cv) vs) => take_calls w4.heap.size j (na + 1 - j) nb us Av cv vs g W hvsn hU HD.out.dig gvs.dig gk.lt hjl (by omega) hcv (by rw [HD.out.len]; omega) (fun W' hG => hvsn ▸ C_of_R (CVG W W' hR hG) hvsn) y hy
      have p1 : (0 : Int) ≤ (j : Int) := by omega
      have p2 : (j : Int) ≤ (j : Int) + (nb : Int) + 1 := by omega
      have p3 : (j : Int) + (nb : Int) + 1 ≤ (na : Int) + 1 := by omega
      have p4 : ¬ (na + 1 = j) := by omega
      have p5 : ((j : Int) + (nb : Int) + 1 - (j : Int)).toNat = nb + 1 := by omega
      have p8 : (j : Int) < ((na - nb + 1 : Nat) : Int) := by omega
      have hne : w4.heap.size ≠ w6.heap.size := by have := H46.out; omega
      have hV0 : 0 < 2 ^ s * vb := by have := Nat.pow_pos (n := nb - 1) (show 0 < 4294967296 by decide); omega
      have hgw : IntKind.u32.wrap (g : Int) = (g : Int) := by have := gk.lt; rw [IntKind.wrap_u32']; omega
      have p7 : j + nb + 1 - j = nb + 1 := by omega
      have p6 : ((na : Int) + 1 - (j : Int)).toNat = na + 1 - j := by omega
      have CP := Aside0.mk CP
      have CV := Aside0.mk CV
      by_cases hb : y < (takeP g us vs j nb).2.1 + (takeP g us vs j nb).2.2
      · obtain ⟨d, hd2⟩ : ∃ d, (y + 4294967296 - (takeP g us vs j nb).2.1 - (takeP g us vs j nb).2.2) % 4294967296 = d := ⟨_, rfl⟩
        obtain ⟨us1, hus1⟩ : ∃ us1, midU us ((takeP g us vs j nb).1 ++ [(d : Int)]) j (nb + 1) = us1 := ⟨_, rfl⟩
        obtain ⟨r1, r2, r3, r4, r5⟩ := round_b HD.out hVlt hV0 hjn (by rw [HQL.out]; omega) hvsn gvs.dig evs hy gk hb hd2 hus1.symm
        rw [show decide (y < (takeP g us vs j nb).2.1 + (takeP g us vs j nb).2.2) = true from decide_eq_true hb, hd2, hus1] at TAKE
        have hjl1 : j + nb < us1.length := by rw [r2]; exact hjn
        rw [List.getElem?_eq_getElem hjl1] at r4
        have BACK := fun W (hU : UAt W w4.heap.size us1) (hR : Kd.R (Kd.int .u32) 56 W w.heap.size (fun k => k ≠ w4.heap.size ∧ k ≠ w6.heap.size) (.slice Av nb cv) vs) => back_calls w4.heap.size j (na + 1 - j) nb us1 Av cv vs W hvsn hU r3 gvs.dig hjl1 (by omega) hcv (by rw [r2]; omega) (fun W' hG => hvsn ▸ C_of_R (CVG W W' hR hG) hvsn) d (Option.some.inj r4)
        obtain ⟨g', rfl⟩ : ∃ g', g = g' + 1 := ⟨g - 1, by omega⟩
        rw [Nat.add_sub_cancel] at r5
        have hgl := gk.lt
        have hgs : IntKind.u64.wrap (((g' + 1 : Nat) : Int) - 1) = (g' : Int) := by rw [IntKind.wrap_u64]; omega
        have hgs2 : IntKind.u64.wrap ((g' : Int) + 1 - 1) = (g' : Int) := by rw [IntKind.wrap_u64]; omega
        have hgs3 : IntKind.u64.wrap (g' : Int) = (g' : Int) := by rw [IntKind.wrap_u64]; omega
        have hgw' : IntKind.u32.wrap (g' : Int) = (g' : Int) := by rw [IntKind.wrap_u32']; omega
        have R5 := Aside0.mk r5
        clear hb gk r5 hd2 hus1 r4 r3 hgw
        go_wp2_with (first | (go_at_call 131; go_loud (refine (GUESS _ CP.out CV.out).mono ?_); rintro e x1 ⟨rfl, ⟨q, rfl⟩⟩) | (go_at_call 132; go_loud (refine (TAKE (wr.drewN q) HU.out (Kd.rN9 HV.out q)).mono ?_); rintro e x2 ⟨rfl, hu2, hg2⟩; have HU2 := Aside0.mk hu2; have HG2 := Aside0.mk hg2; clear hu2 hg2) | (go_at_call 133; go_loud (refine (BACK x2 HU2.out (CVG _ _ (Kd.rN9 HV.out q) HG2.out)).mono ?_); rintro e x3 ⟨rfl, hu3, hg3⟩; have hq2 := Kd.R_grown (Kd.R_grown (Kd.rN9 HQ.out q) HG2.out (fun k hk => by rintro e; cases e; exact absurd hk hne)) hg3 (fun k hk => by rintro e; cases e; exact absurd hk hne); obtain ⟨hc6, hf6⟩ := Kd.R_celln 0 hq2 (j : Int) p1 p8; rw [Int.toNat_natCast] at hc6 hf6; have HU3 := Aside0.mk hu3; have HG3 := Aside0.mk hg3; have HQ2 := Aside0.mk hq2; clear hu3 hg3 hq2))
        go_roundw
        case rel =>
          refine ⟨j, _, _, by first | rfl | (rw [show wrap64 ((j : Int) - 1) = (j : Int) - 1 by unfold wrap64; omega]), by omega, R5, ⟨by rw [List.length_set]; exact HQL.out⟩, ⟨(Below.heap_setCell x3 ⟨w6.heap.size, j, none⟩ _ w4.heap.size hne).trans HU3.out⟩, ⟨Kd.R_putn HQ2.out (j : Int) (g' : Int)⟩, ⟨Kd.R_far (p := ⟨w6.heap.size, j, none⟩) (CVG _ _ (CVG _ _ (Kd.rN9 HV.out q) HG2.out) HG3.out) (fun k hk => hk.2) _⟩, ⟨?_⟩⟩
          have hbw : Below w.heap.size w (wr.drewN q) := bN9 HB.out q
          have hb2 := hbw.grown HG2.out HB.out.size (fun k hk => by cases hk; exact HBW.out)
          exact (hb2.grown HG3.out hb2.size (fun k hk => by cases hk; exact HBW.out)).setCell (p := ⟨w6.heap.size, j, none⟩) (Nat.le_trans HBW.out (by have := H46.out; show w4.heap.size ≤ w6.heap.size; omega)) _
        case measure => simp [intOf]; try omega
      · have HBO := Aside0.mk hb
        rw [show decide (y < (takeP g us vs j nb).2.1 + (takeP g us vs j nb).2.2) = false from decide_eq_false hb] at TAKE
        have GK := Aside0.mk gk
        clear hb gk
        go_wp2_with (first | (go_at_call 131; go_loud (refine (GUESS _ CP.out CV.out).mono ?_); rintro e x1 ⟨rfl, ⟨q, rfl⟩⟩) | (go_at_call 132; go_loud (refine (TAKE (wr.drewN q) HU.out (Kd.rN9 HV.out q)).mono ?_); rintro e x2 ⟨rfl, hu2, hg2⟩; have hq2 := Kd.R_grown (Kd.rN9 HQ.out q) hg2 (fun k hk => by rintro e; cases e; exact absurd hk hne); obtain ⟨hc6, hf6⟩ := Kd.R_celln 0 hq2 (j : Int) p1 p8; rw [Int.toNat_natCast] at hc6 hf6; have HU2 := Aside0.mk hu2; have HG2 := Aside0.mk hg2; have HQ2 := Aside0.mk hq2; clear hu2 hg2 hq2))
        go_roundw
        case rel =>
          refine ⟨j, _, _, by first | rfl | (rw [show wrap64 ((j : Int) - 1) = (j : Int) - 1 by unfold wrap64; omega]), by omega, ⟨round_a HD.out hVlt hV0 hjn (by rw [HQL.out]; omega) hvsn gvs.dig evs hy GK.out HBO.out⟩, ⟨by rw [List.length_set]; exact HQL.out⟩, ⟨(Below.heap_setCell x2 ⟨w6.heap.size, j, none⟩ _ w4.heap.size hne).trans HU2.out⟩, ⟨Kd.R_putn HQ2.out (j : Int) (g : Int)⟩, ⟨Kd.R_far (p := ⟨w6.heap.size, j, none⟩) (CVG _ _ (Kd.rN9 HV.out q) HG2.out) (fun k hk => hk.2) _⟩, ⟨?_⟩⟩
          exact ((bN9 HB.out q).grown HG2.out HB.out.size (fun k hk => by cases hk; exact HBW.out)).setCell (p := ⟨w6.heap.size, j, none⟩) (Nat.le_trans HBW.out (by have := H46.out; show w4.heap.size ≤ w6.heap.size; omega)) _
        case measure => simp [intOf]; try omega
end
theorem quo_DivMod.calls (A0 : Option Addr) (c0 : Nat) (l0 : List Int) (A1 : Option Addr) (c1 : Nat) (l1 : List Int) (r1 r2 : List Int) (r3 : Int) (w : World) (hr0 : Kd.C (Kd.int .u32) w A0 l0.length l0) (hc0 : l0.length ≤ c0) (hr1 : Kd.C (Kd.int .u32) w A1 l1.length l1) (hc1 : l1.length ≤ c1) (h : quo_DivMod.f l0 l1 = some (r1, r2, r3)) :
    Calls Tryz.prog 115 #[.slice A0 l0.length c0, .slice A1 l1.length c1] w fun e w' => ∃ v0_ v1_ : Value, e = .returned (.tuple #[v0_, v1_, .int .i64 r3]) ∧ Kd.R (Kd.int .u32) 56 w' w.heap.size (fun k_ => some k_ ≠ (v1_ : Value).ownBlock) v0_ r1 ∧ Kd.R (Kd.int .u32) 56 w' w.heap.size (fun k_ => some k_ ≠ (v0_ : Value).ownBlock) v1_ r2 ∧ Below w.heap.size w w' := by
  unfold quo_DivMod.f at h
  by_cases hg : okN l0 = true ∧ okN l1 = true ∧ l0.length ≤ 1048000 ∧ l1.length ≤ 1048000
  · rw [if_pos hg] at h
    obtain ⟨ok0, ok1, n0, n1⟩ := hg
    have d0 := (okN_iff.1 ok0).2
    have d1 := (okN_iff.1 ok1).2
    have g0 : GoodB 4294967296 (trimL l0) := trimL_good d0
    have g1 : GoodB 4294967296 (trimL l1) := trimL_good d1
    have e0 := trimL_val 4294967296 l0
    have e1 := trimL_val 4294967296 l1
    by_cases hz : valB 4294967296 l1 = 0
    · rw [if_pos hz] at h
      obtain ⟨rfl, rfl, rfl⟩ : [] = r1 ∧ [] = r2 ∧ 17 = r3 := by simpa using h
      have ht : trimL l1 = [] := g1.zero (by rw [e1, hz])
      exact div_zero_calls A0 c0 l0 A1 c1 l1 w hr0 hc0 hr1 hc1 ok0 ok1 (trimL l0) (trimL l1) _ _ rfl rfl rfl rfl (by rw [ht]; rfl)
    · rw [if_neg hz] at h
      obtain ⟨rfl, rfl, rfl⟩ : digB 4294967296 (valB 4294967296 l0 / valB 4294967296 l1) = r1 ∧ digB 4294967296 (valB 4294967296 l0 % valB 4294967296 l1) = r2 ∧ 0 = r3 := by simpa using h
      have hnb : (trimL l1).length ≠ 0 := fun hc => by
        have := List.eq_nil_of_length_eq_zero hc
        rw [this, valB_nil] at e1
        exact hz e1.symm
      rw [← e0, ← e1]
      by_cases hlt : valB 4294967296 (trimL l0) < valB 4294967296 (trimL l1)
      · rw [Nat.div_eq_of_lt hlt, Nat.mod_eq_of_lt hlt, digB_zero _ (by decide), ← g0.eq (by decide)]
        exact div_less_calls A0 c0 l0 A1 c1 l1 w hr0 hc0 hr1 hc1 ok0 ok1 (trimL l0) (trimL l1) _ _ rfl rfl rfl rfl hnb hlt
      · by_cases h1 : (trimL l1).length = 1
        · exact div_one_calls A0 c0 l0 A1 c1 l1 w hr0 hc0 hr1 hc1 ok0 ok1 (trimL l0) (trimL l1) _ _ rfl rfl rfl rfl h1 (Nat.le_of_not_lt hlt) (by rw [e1]; exact hz)
        · exact div_main_calls A0 c0 l0 A1 c1 l1 w hr0 hc0 hr1 hc1 ok0 ok1 (trimL l0) (trimL l1) _ _ rfl rfl rfl rfl (by omega) (Nat.le_of_not_lt hlt) g1.can g0.can (Nat.le_trans (trimL_len_le l0) n0)
  · rw [if_neg hg] at h; cases h
#print axioms quo_DivMod.calls
end Go.Proofs.YthppjdmkinbccaaGreatDoor.Print

namespace Go.Proofs.YthppjdmkinbccaaGreatDoor.Print
open Go.RowKit Go.Proofs.YthppjdmkinbccaaGreatDoorW.PrintWords Go.Proofs.YthppjdmkinbccaaGreatDoorW.PrintLast Go.Proofs.YthppjdmkinbccaaGreatDoorW.PrintMore
attribute [local go_sem] max2_int min2_int max_two min_two max_three min_three max_four min_four   -- for this text's walks alone
set_option linter.unusedVariables false
set_option linter.unusedSimpArgs false
def quo_Gcd.l0 : Nat → List Int → List Int → Option (List Int)
 | 0, _, _ => none
 | k + 1, x0, x1 => if (x1.length : Int) > 0 then ((quo_DivMod.f x0 x1).bind fun bt107 => (quo_Gcd.l0 k x1 bt107.2.1)) else (some x0)
def quo_Gcd.f (k : Nat) (l0 : List Int) (l1 : List Int) : Option (List Int) := (nat_Trim.f l0).bind fun t101 => ((nat_Trim.f l1).bind fun t104 => (quo_Gcd.l0 k t101 t104))
set_option maxHeartbeats 8000000 in
set_option maxRecDepth 100000 in
theorem quo_Gcd.calls (k : Nat) (A0 : Option Addr) (c0 : Nat) (l0 : List Int) (A1 : Option Addr) (c1 : Nat) (l1 : List Int) (r : List Int) (w : World) (hr0 : Kd.C (Kd.int .u32) w A0 l0.length l0) (hc0 : l0.length ≤ c0) (hr1 : Kd.C (Kd.int .u32) w A1 l1.length l1) (hc1 : l1.length ≤ c1) (h : quo_Gcd.f k l0 l1 = some r) :
  Calls Tryz.prog 91 #[.slice A0 l0.length c0, .slice A1 l1.length c1] w fun e w' => ∃ v0_ : Value, e = .returned (v0_) ∧ Kd.R (Kd.int .u32) 56 w' w.heap.size (fun _ => True) v0_ r ∧ Below w.heap.size w w' := by
 have HR0 := Aside0.mk hr0
 have HC0 := Aside0.mk hc0
 clear hr0 hc0
 have HR1 := Aside0.mk hr1
 have HC1 := Aside0.mk hc1
 clear hr1 hc1
 have HB := Aside0.mk (Below.refl w.heap.size w)
 have H : ((nat_Trim.f l0).bind fun t101 => ((nat_Trim.f l1).bind fun t104 => (quo_Gcd.l0 k t101 t104))) = some r := h
 clear h
 replace H := Option.bind_eq_some_iff.mp H
 obtain ⟨t101, A30, H⟩ := H
 (try dsimp only at H)
 have A3 := Aside0.mk A30
 clear A30
 replace H := Option.bind_eq_some_iff.mp H
 obtain ⟨t104, A40, H⟩ := H
 replace H : (quo_Gcd.l0 k t101 t104) = some r := H
 have A4 := Aside0.mk A40
 clear A40
 have H' := Aside0.mk H
 clear H
 go_enter Tryz.func91, Tryz.ntmps91
 go_wp2_with (first | ((with_reducible refine gC9 (f := 45) rfl ?_); refine goesL_ (some 9) rfl rfl Tryz.func45 (by kernel_rfl) rfl #[.slice A0 l0.length c0] rfl (by (try simp only [List.map_toArray, List.map_cons, List.map_nil]); first | done | rfl | (simp only [List.length_drop, List.length_take]; rfl)) ?_; (with_reducible refine (nat_Trim.calls _ _ l0 t101 _ ?side1 ?side2 A3.out).mono ?_); (case side1 => repeat (first | exact HR0.out | (with_reducible refine Kd.cA9 ?_ _) | (with_reducible refine Kd.cN9 ?_ _) | (with_reducible refine Kd.cD9 ?_))); (case side2 => exact HC0.out); rintro e w5 ⟨v102, rfl, ho0, hb⟩; refine ⟨_, rfl, ?_⟩; have n0_ := Aside0.mk (Kd.rL9 ho0 (bZ9 (by repeat (first | (with_reducible first | exact HB.out | apply bA9 | apply bN9 | apply bD9) | exact HB.out)))); have n1_ := Aside0.mk (bT9 (by repeat (first | (with_reducible first | exact HB.out | apply bA9 | apply bN9 | apply bD9) | exact HB.out)) hb); clear HB; have HO103 := n0_; have HB := n1_; clear n0_ n1_; (try clear hb); (try clear hb2); (try clear hk); (try clear hi); (try clear ho0)) | ((with_reducible refine gC9 (f := 45) rfl ?_); refine goesL_ (some 11) rfl rfl Tryz.func45 (by kernel_rfl) rfl #[.slice A1 l1.length c1] rfl (by (try simp only [List.map_toArray, List.map_cons, List.map_nil]); first | done | rfl | (simp only [List.length_drop, List.length_take]; rfl)) ?_; (with_reducible refine (nat_Trim.calls _ _ l1 t104 _ ?side1 ?side2 A4.out).mono ?_); (case side1 => repeat (first | exact (Kd.cB9 HR1.out HB.out) | (with_reducible refine Kd.cA9 ?_ _) | (with_reducible refine Kd.cN9 ?_ _) | (with_reducible refine Kd.cD9 ?_))); (case side2 => exact HC1.out); rintro e w6 ⟨v105, rfl, ho0, hb⟩; refine ⟨_, rfl, ?_⟩; have n0_ := Aside0.mk (Kd.R_elder' (by (with_reducible repeat (first | apply Kd.rA9 | apply Kd.rN9 | apply Kd.rD9)); exact HO103.out) (Kd.R_base ho0) hb); have n1_ := Aside0.mk (Kd.rL9 (Kd.R_new' ho0 (Kd.R_lt (by (with_reducible repeat (first | apply Kd.rA9 | apply Kd.rN9 | apply Kd.rD9)); exact HO103.out))) (bZ9 (by repeat (first | (with_reducible first | exact HB.out | apply bA9 | apply bN9 | apply bD9) | exact HB.out)))); have n2_ := Aside0.mk (bT9 (by repeat (first | (with_reducible first | exact HB.out | apply bA9 | apply bN9 | apply bD9) | exact HB.out)) hb); clear HO103; clear HB; have HO103 := n0_; have HO106 := n1_; have HB := n2_; clear n0_ n1_ n2_; (try clear hb); (try clear hb2); (try clear hk); (try clear hi); (try clear ho0)))
 go_loopg [0, 1] k (fun kq v0 v1 w' => ∃ (x0_1 : List Int) (x1_1 : List Int), Aside0 (quo_Gcd.l0 kq x0_1 x1_1 = some r) ∧ Aside0 (kq ≤ k) ∧ Aside0 (Kd.R (Kd.int .u32) 56 w' w.heap.size (fun k_ => some k_ ≠ (v1 : Value).ownBlock) v0 x0_1) ∧ Aside0 (Kd.R (Kd.int .u32) 56 w' w.heap.size (fun k_ => some k_ ≠ (v0 : Value).ownBlock) v1 x1_1) ∧ Aside0 (Below w.heap.size w w'))
 case atStart => exact ⟨(t101), (t104), H', ⟨Nat.le_refl _⟩, ⟨by (with_reducible repeat (first | apply Kd.rA9 | apply Kd.rN9 | apply Kd.rD9)); exact Kd.R_mono HO103.out (fun _ hk => hk.2)⟩, ⟨by (with_reducible repeat (first | apply Kd.rA9 | apply Kd.rN9 | apply Kd.rD9)); exact Kd.R_mono HO106.out (fun _ hk => hk.2)⟩, ⟨by repeat (first | (with_reducible first | exact HB.out | apply bA9 | apply bN9 | apply bD9) | exact HB.out)⟩⟩
 case round =>
  clear H'
  try clear c1
  try clear p2
  try clear c4
  obtain ⟨x0_1, x1_1, HA, HK1, HO_0, HO_1, HB⟩ := hrel
  cases gk with
  | zero => exact absurd HA.out (by simp [quo_Gcd.l0])
  | succ k1 =>
   have H := HA.out
   clear HA
   simp only [quo_Gcd.l0] at H
   by_cases c7 : (x1_1.length : Int) > 0
   ·rw [if_pos c7] at H
    have c7b0 : decide (0 < (x1_1.length : Int)) = true := decide_eq_true c7
    have c7b1 : decide (0 < x1_1.length) = true := decide_eq_true (by omega)
    clear c7
    replace H := Option.bind_eq_some_iff.mp H
    obtain ⟨⟨t107, t108, t109⟩, A80, H⟩ := H
    replace H : (quo_Gcd.l0 k1 x1_1 t108) = some r := H
    have A8 := Aside0.mk A80
    clear A80
    have H' := Aside0.mk H
    clear H
    obtain ⟨Ao9, co9, eo9⟩ := Kd.rS9 HO_1.out
    subst eo9
    obtain ⟨Ao10, co10, eo10⟩ := Kd.rS9 HO_0.out
    subst eo10
    go_wp2_with (first | ((with_reducible refine gC9 (f := 115) rfl ?_); refine goesL_ (some 18) rfl rfl Tryz.func115 (by kernel_rfl) rfl #[.slice Ao10 x0_1.length co10, .slice Ao9 x1_1.length co9] rfl (by (try simp only [List.map_toArray, List.map_cons, List.map_nil]); first | done | rfl | (simp only [List.length_drop, List.length_take]; rfl)) ?_; (with_reducible refine (quo_DivMod.calls _ _ x0_1 _ _ x1_1 t107 t108 t109 _ ?side1 ?side2 ?side3 ?side4 A8.out).mono ?_); (case side1 => repeat (first | exact (Kd.rR9 HO_0.out).2.2 | (with_reducible refine Kd.cA9 ?_ _) | (with_reducible refine Kd.cN9 ?_ _) | (with_reducible refine Kd.cD9 ?_))); (case side2 => exact (Kd.rR9 HO_0.out).2.1); (case side3 => repeat (first | exact (Kd.rR9 HO_1.out).2.2 | (with_reducible refine Kd.cA9 ?_ _) | (with_reducible refine Kd.cN9 ?_ _) | (with_reducible refine Kd.cD9 ?_))); (case side4 => exact (Kd.rR9 HO_1.out).2.1); rintro e w11 ⟨v110, v112, rfl, ho0, ho1, hb⟩; refine ⟨_, rfl, ?_⟩; have n0_ := Aside0.mk (Kd.R_mono (Kd.R_told (Kd.R_told (Kd.R_old (by (with_reducible repeat (first | apply Kd.rA9 | apply Kd.rN9 | apply Kd.rD9)); exact HO_0.out) hb) (Kd.R_base ho0)) (Kd.R_base ho1)) (fun _ h_ => h_.1)); have n1_ := Aside0.mk (Kd.R_mono (Kd.R_told (Kd.R_told (Kd.R_old (by (with_reducible repeat (first | apply Kd.rA9 | apply Kd.rN9 | apply Kd.rD9)); exact HO_1.out) hb) (Kd.R_base ho0)) (Kd.R_base ho1)) (fun _ h_ => h_.1)); have n2_ := Aside0.mk (Kd.rL9 (Kd.R_new' (Kd.R_new' ho0 (Kd.R_lt (by (with_reducible repeat (first | apply Kd.rA9 | apply Kd.rN9 | apply Kd.rD9)); exact HO_0.out))) (Kd.R_lt (by (with_reducible repeat (first | apply Kd.rA9 | apply Kd.rN9 | apply Kd.rD9)); exact HO_1.out))) (bZ9 (by repeat (first | (with_reducible first | exact HB.out | apply bA9 | apply bN9 | apply bD9) | exact HB.out)))); have n3_ := Aside0.mk (Kd.rL9 (Kd.R_new' (Kd.R_new' ho1 (Kd.R_lt (by (with_reducible repeat (first | apply Kd.rA9 | apply Kd.rN9 | apply Kd.rD9)); exact HO_0.out))) (Kd.R_lt (by (with_reducible repeat (first | apply Kd.rA9 | apply Kd.rN9 | apply Kd.rD9)); exact HO_1.out))) (bZ9 (by repeat (first | (with_reducible first | exact HB.out | apply bA9 | apply bN9 | apply bD9) | exact HB.out)))); have n4_ := Aside0.mk (bT9 (by repeat (first | (with_reducible first | exact HB.out | apply bA9 | apply bN9 | apply bD9) | exact HB.out)) hb); clear HO_0; clear HO_1; clear HB; have HO_0 := n0_; have HO_1 := n1_; have HO111 := n2_; have HO113 := n3_; have HB := n4_; clear n0_ n1_ n2_ n3_ n4_; (try clear hb); (try clear hb2); (try clear hk); (try clear hi); (try clear ho0); (try clear ho1)))
    go_roundg k1
    case measure => have := HK1.out; omega
    case rel => exact ⟨(x1_1), (t108), H', ⟨by have := HK1.out; omega⟩, ⟨by (with_reducible repeat (first | apply Kd.rA9 | apply Kd.rN9 | apply Kd.rD9)); exact Kd.R_mono HO_1.out (fun _ hk => hk.2)⟩, ⟨by (with_reducible repeat (first | apply Kd.rA9 | apply Kd.rN9 | apply Kd.rD9)); exact Kd.R_mono HO113.out (fun _ hk => hk.2)⟩, ⟨by repeat (first | (with_reducible first | exact HB.out | apply bA9 | apply bN9 | apply bD9) | exact HB.out)⟩⟩
   ·rw [if_neg c7] at H
    have c7b0 : decide (0 < (x1_1.length : Int)) = false := decide_eq_false c7
    have c7b1 : decide (0 < x1_1.length) = false := decide_eq_false (by omega)
    clear c7
    obtain rfl := Option.some.inj H
    obtain ⟨Ao12, co12, eo12⟩ := Kd.rS9 HO_1.out
    subst eo12
    go_wp2
    go_ret
    exact ⟨_, by first | rfl | (simp [eN9, eS9] <;> rfl) | (simp [*, eN9, eS9] <;> rfl), by (with_reducible repeat (first | apply Kd.rA9 | apply Kd.rN9 | apply Kd.rD9)); exact Kd.R_mono HO_0.out (fun _ hk => trivial), by repeat (first | (with_reducible first | exact HB.out | apply bA9 | apply bN9 | apply bD9) | exact HB.out)⟩
def rat_by.f (l0 : List Int) (l1 : List Int) : Option (List Int) := (quo_DivMod.f l0 l1).bind fun bt114 => (some bt114.1)
set_option maxHeartbeats 8000000 in
set_option maxRecDepth 100000 in
theorem rat_by.calls (A0 : Option Addr) (c0 : Nat) (l0 : List Int) (A1 : Option Addr) (c1 : Nat) (l1 : List Int) (r : List Int) (w : World) (hr0 : Kd.C (Kd.int .u32) w A0 l0.length l0) (hc0 : l0.length ≤ c0) (hr1 : Kd.C (Kd.int .u32) w A1 l1.length l1) (hc1 : l1.length ≤ c1) (h : rat_by.f l0 l1 = some r) :
  Calls Tryz.prog 93 #[.slice A0 l0.length c0, .slice A1 l1.length c1] w fun e w' => ∃ v0_ : Value, e = .returned (v0_) ∧ Kd.R (Kd.int .u32) 56 w' w.heap.size (fun _ => True) v0_ r ∧ Below w.heap.size w w' := by
 have HR0 := Aside0.mk hr0
 have HC0 := Aside0.mk hc0
 clear hr0 hc0
 have HR1 := Aside0.mk hr1
 have HC1 := Aside0.mk hc1
 clear hr1 hc1
 have HB := Aside0.mk (Below.refl w.heap.size w)
 have H : ((quo_DivMod.f l0 l1).bind fun bt114 => (some bt114.1)) = some r := h
 clear h
 replace H := Option.bind_eq_some_iff.mp H
 obtain ⟨⟨t114, t115, t116⟩, A30, H⟩ := H
 replace H : (some t114) = some r := H
 have A3 := Aside0.mk A30
 clear A30
 obtain rfl := Option.some.inj H
 go_enter Tryz.func93, Tryz.ntmps93
 go_wp2_with (first | ((with_reducible refine gC9 (f := 115) rfl ?_); refine goesL_ (some 11) rfl rfl Tryz.func115 (by kernel_rfl) rfl #[.slice A0 l0.length c0, .slice A1 l1.length c1] rfl (by (try simp only [List.map_toArray, List.map_cons, List.map_nil]); first | done | rfl | (simp only [List.length_drop, List.length_take]; rfl)) ?_; (with_reducible refine (quo_DivMod.calls _ _ l0 _ _ l1 t114 t115 t116 _ ?side1 ?side2 ?side3 ?side4 A3.out).mono ?_); (case side1 => repeat (first | exact HR0.out | (with_reducible refine Kd.cA9 ?_ _) | (with_reducible refine Kd.cN9 ?_ _) | (with_reducible refine Kd.cD9 ?_))); (case side2 => exact HC0.out); (case side3 => repeat (first | exact HR1.out | (with_reducible refine Kd.cA9 ?_ _) | (with_reducible refine Kd.cN9 ?_ _) | (with_reducible refine Kd.cD9 ?_))); (case side4 => exact HC1.out); rintro e w4 ⟨v117, v119, rfl, ho0, ho1, hb⟩; refine ⟨_, rfl, ?_⟩; have n0_ := Aside0.mk (Kd.rL9 ho0 (bZ9 (by repeat (first | (with_reducible first | exact HB.out | apply bA9 | apply bN9 | apply bD9) | exact HB.out)))); have n1_ := Aside0.mk (Kd.rL9 ho1 (bZ9 (by repeat (first | (with_reducible first | exact HB.out | apply bA9 | apply bN9 | apply bD9) | exact HB.out)))); have n2_ := Aside0.mk (bT9 (by repeat (first | (with_reducible first | exact HB.out | apply bA9 | apply bN9 | apply bD9) | exact HB.out)) hb); clear HB; have HO118 := n0_; have HO120 := n1_; have HB := n2_; clear n0_ n1_ n2_; (try clear hb); (try clear hb2); (try clear hk); (try clear hi); (try clear ho0); (try clear ho1)))
 go_ret
 exact ⟨_, by first | rfl | (simp [eN9, eS9] <;> rfl) | (simp [*, eN9, eS9] <;> rfl), by (with_reducible repeat (first | apply Kd.rA9 | apply Kd.rN9 | apply Kd.rD9)); exact Kd.R_mono HO118.out (fun _ hk => trivial), by repeat (first | (with_reducible first | exact HB.out | apply bA9 | apply bN9 | apply bD9) | exact HB.out)⟩
def rat_one.f  : Option (List Int) := (nat_Of.f 1).bind fun t121 => (some t121)
set_option maxHeartbeats 8000000 in
set_option maxRecDepth 100000 in
theorem rat_one.calls  (r : List Int) (w : World) (h : rat_one.f  = some r) :
  Calls Tryz.prog 67 #[] w fun e w' => ∃ v0_ : Value, e = .returned (v0_) ∧ Kd.R (Kd.int .u32) 56 w' w.heap.size (fun _ => True) v0_ r ∧ Below w.heap.size w w' := by
 have HB := Aside0.mk (Below.refl w.heap.size w)
 have H : ((nat_Of.f 1).bind fun t121 => (some t121)) = some r := h
 clear h
 replace H := Option.bind_eq_some_iff.mp H
 obtain ⟨t121, A10, H⟩ := H
 replace H : (some t121) = some r := H
 have A1 := Aside0.mk A10
 clear A10
 obtain rfl := Option.some.inj H
 go_enter Tryz.func67, Tryz.ntmps67
 go_wp2_with (first | ((with_reducible refine gC9 (f := 30) rfl ?_); refine goesL_ (some 1) rfl rfl Tryz.func30 (by kernel_rfl) rfl #[.int .u64 1] rfl (by (try simp only [List.map_toArray, List.map_cons, List.map_nil]); first | done | rfl | (simp only [List.length_drop, List.length_take]; rfl)) ?_; (with_reducible refine (nat_Of.calls 1 t121 _ A1.out).mono ?_); rintro e w2 ⟨v122, rfl, ho0, hb⟩; refine ⟨_, rfl, ?_⟩; have n0_ := Aside0.mk (Kd.rL9 ho0 (bZ9 (by repeat (first | (with_reducible first | exact HB.out | apply bA9 | apply bN9 | apply bD9) | exact HB.out)))); have n1_ := Aside0.mk (bT9 (by repeat (first | (with_reducible first | exact HB.out | apply bA9 | apply bN9 | apply bD9) | exact HB.out)) hb); clear HB; have HO123 := n0_; have HB := n1_; clear n0_ n1_; (try clear hb); (try clear hb2); (try clear hk); (try clear hi); (try clear ho0)))
 go_ret
 exact ⟨_, by first | rfl | (simp [eN9, eS9] <;> rfl) | (simp [*, eN9, eS9] <;> rfl), by (with_reducible repeat (first | apply Kd.rA9 | apply Kd.rN9 | apply Kd.rD9)); exact HO123.out, by repeat (first | (with_reducible first | exact HB.out | apply bA9 | apply bN9 | apply bD9) | exact HB.out)⟩
end Go.Proofs.YthppjdmkinbccaaGreatDoor.Print

namespace Go.Proofs
open Go.RowKit Go.Shelf
shelf_lay Lays.n128 Nm 128 at Tryz as Tryz.layLen32
end Go.Proofs
namespace Go.Proofs.YthppjdmkinbccaaGreatDoor.Print
open Go.RowKit Go.Proofs.YthppjdmkinbccaaGreatDoorW.PrintWords Go.Proofs.YthppjdmkinbccaaGreatDoorW.PrintLast Go.Proofs.YthppjdmkinbccaaGreatDoorW.PrintMore Go.Proofs.YthppjdmkinbccaaGreatDoor.Base
set_option linter.unusedVariables false
set_option linter.unusedSimpArgs false
set_option linter.unusedSectionVars false
def bitsL (l : List Int) : Int := if (trimL l).length = 0 then 0 else 32 * (((trimL l).length : Int) - 1) + (Lib.bitLen (limbN l ((trimL l).length - 1)) : Int)
theorem bitLen_pos {x : Nat} (h : 1 ≤ x) (h2 : x < 4294967296) : 1 ≤ Lib.bitLen x := by
  rcases Nat.eq_zero_or_pos (Lib.bitLen x) with h0 | h0
  · have := lt_bitLen h2
    rw [h0] at this; simp at this; omega
  · exact h0
theorem limbN_last {l : List Int} (hd : DigB 4294967296 l) (h : (trimL l).length ≠ 0) : 1 ≤ limbN l ((trimL l).length - 1) := by
  have hle := trimL_len_le l
  have hc := trimL_can l
  have hi : (trimL l).length - 1 < l.length := by omega
  have e : (trimL l)[(trimL l).length - 1]? = l[(trimL l).length - 1]? := by
    have h1 : (trimL l)[(trimL l).length - 1]? = (l.take (trimL l).length)[(trimL l).length - 1]? := by rw [← trimL_take]
    rw [h1, List.getElem?_take, if_pos (by omega)]
  rw [List.getLast?_eq_getElem?, e, List.getElem?_eq_getElem hi] at hc
  have := hd l[(trimL l).length - 1] (List.getElem_mem hi)
  simp only [limbN, List.getD_eq_getElem?_getD, List.getElem?_eq_getElem hi, Option.getD_some]
  have hne : l[(trimL l).length - 1] ≠ 0 := fun hz => hc (by rw [hz])
  omega
theorem bitsL_zero {l : List Int} (hd : DigB 4294967296 l) : bitsL l = 0 ↔ valB 4294967296 l = 0 := by
  unfold bitsL
  have hg : GoodB 4294967296 (trimL l) := trimL_good hd
  have hv := trimL_val 4294967296 l
  by_cases h : (trimL l).length = 0
  · rw [if_pos h]
    have := List.eq_nil_of_length_eq_zero h
    rw [this, valB_nil] at hv
    exact ⟨fun _ => hv.symm, fun _ => rfl⟩
  · rw [if_neg h]
    refine ⟨fun hz => ?_, fun hz => ?_⟩
    · exfalso
      have hx : 1 ≤ limbN l ((trimL l).length - 1) := by
        have hlast := limbN_last hd h
        exact hlast
      have h2 := limbN_lt (by decide) hd ((trimL l).length - 1)
      have := bitLen_pos hx h2
      omega
    · exfalso
      have := hg.zero (by rw [hv, hz])
      rw [this] at h
      exact h rfl
def nat_Bits.f (l0 : List Int) : Option Int := if okN l0 = true then some (bitsL l0) else none
set_option maxRecDepth 100000 in
set_option maxHeartbeats 4000000 in
theorem nat_Bits.calls (A0 : Option Addr) (c0 : Nat) (l0 : List Int) (r : Int) (w : World) (hr0 : Kd.C (Kd.int .u32) w A0 l0.length l0) (hc0 : l0.length ≤ c0) (h : nat_Bits.f l0 = some r) :
    Calls Tryz.prog 90 #[.slice A0 l0.length c0] w fun e w' => e = .returned (.int .i64 r) ∧ Drawn0 w w' := by
  unfold nat_Bits.f at h
  by_cases hg : okN l0 = true
  · rw [if_pos hg] at h
    obtain rfl := Option.some.inj h
    obtain ⟨n0, d0⟩ := okN_iff.1 hg
    have TOP := top_calls A0 c0 l0 w hr0 hc0 (by omega)
    have hle := trimL_len_le l0
    unfold bitsL
    by_cases h0 : (trimL l0).length = 0
    · rw [if_pos h0]
      rw [h0] at TOP
      have HT := Aside0.mk TOP
      clear TOP
      go_enter Tryz.func90, Tryz.ntmps90
      go_wp2_with (go_at_call 74; refine HT.out.mono ?_; rintro e w1 ⟨rfl, ⟨q, rfl⟩⟩)
      go_ret
      exact ⟨rfl, ⟨_, rfl⟩⟩
    · rw [if_neg h0]
      have hl := limbN_last d0 h0
      obtain ⟨m, hm⟩ : ∃ m, (trimL l0).length = m := ⟨_, rfl⟩
      rw [hm] at hl TOP hle h0 ⊢
      obtain ⟨hx, hx2⟩ := rd_nat d0 (show m - 1 < l0.length by omega)
      obtain ⟨x, hxe⟩ : ∃ x, limbN l0 (m - 1) = x := ⟨_, rfl⟩
      rw [hxe] at hx hx2 hl ⊢
      obtain ⟨ad, hA, hcell⟩ := Kd.at_int hr0 ((m - 1 : Nat) : Int) (by omega) (by omega)
      rw [hx, Int.toNat_natCast] at hcell
      have LEN := fun W => Any.bits_Len32 Tryz.layLen32 (x : Int) W (by omega) (by omega)
      rw [Int.toNat_natCast] at LEN
      have hb := Any.bitLen_le32 (x : Int) (by omega) (by omega)
      rw [Int.toNat_natCast] at hb
      obtain ⟨b, hbb⟩ : ∃ b, Lib.bitLen x = b := ⟨_, rfl⟩
      rw [hbb] at LEN hb ⊢
      have hd0 : ((m : Int) == 0) = false := beq_eq_false_iff_ne.mpr (by omega)
      have q1 : (0 : Int) ≤ (m : Int) - 1 := by omega
      have q2 : (m : Int) - 1 < (l0.length : Int) := by omega
      have q3 : ((m : Int) - 1).toNat = m - 1 := by omega
      cases hA
      have HT := Aside0.mk TOP
      clear TOP hr0 hm hxe hbb hx
      go_enter Tryz.func90, Tryz.ntmps90
      go_wp2_with (first | (go_at_call 74; refine HT.out.mono ?_; rintro e w1 ⟨rfl, ⟨q, rfl⟩⟩) | (go_at_call 114; refine (LEN _).mono ?_; rintro e w1 ⟨rfl, rfl⟩))
      go_ret
      exact ⟨rfl, ⟨_, rfl⟩⟩
  · rw [if_neg hg] at h; cases h
theorem divmod_f {a b : List Int} (ha : okN a = true) (hb : okN b = true) (la : a.length ≤ 1048000) (lb : b.length ≤ 1048000) (h0 : valB 4294967296 b ≠ 0) : quo_DivMod.f a b = some (digB 4294967296 (valB 4294967296 a / valB 4294967296 b), digB 4294967296 (valB 4294967296 a % valB 4294967296 b), 0) := by
  unfold quo_DivMod.f
  rw [if_pos ⟨ha, hb, la, lb⟩, if_neg h0]
theorem gcd_law (n : Nat) (hn : n ≤ 1048000) : ∀ (y x k : Nat), x < 4294967296 ^ n → y < 4294967296 ^ n → y < k → quo_Gcd.l0 k (digB 4294967296 x) (digB 4294967296 y) = some (digB 4294967296 (Nat.gcd x y)) := by
  intro y
  induction y using Nat.strongRecOn with
  | ind y ih =>
    intro x k hx hy hk
    obtain ⟨k, rfl⟩ : ∃ m, k = m + 1 := ⟨k - 1, by omega⟩
    simp only [quo_Gcd.l0]
    by_cases h0 : y = 0
    · subst h0
      rw [digB_zero _ (by decide), if_neg (by simp), Nat.gcd_zero_right]
    · have hpos : 0 < (digB 4294967296 y).length := digB_len_ge (by decide) (n := 0) (by rw [Nat.pow_zero]; omega)
      have hlx := digB_len (B := 4294967296) (by decide) hx
      have hly := digB_len (B := 4294967296) (by decide) hy
      have hm : x % y < y := Nat.mod_lt _ (by omega)
      rw [if_pos (by omega), divmod_f (okN_digB hx (by omega)) (okN_digB hy (by omega)) (by omega) (by omega) (by rw [digB_val _ (by decide)]; exact h0)]
      simp only [Option.bind_some, digB_val 4294967296 (by decide)]
      rw [ih (x % y) hm y k hy (by omega) (by omega), gcd_rests x y (by omega)]
def quo_GcdC.f (l0 l1 : List Int) : Option (List Int) := if okN l0 = true ∧ okN l1 = true ∧ l0.length ≤ 1048000 ∧ l1.length ≤ 1048000 then some (digB 4294967296 (Nat.gcd (valB 4294967296 l0) (valB 4294967296 l1))) else none
theorem quo_GcdC.calls (A0 : Option Addr) (c0 : Nat) (l0 : List Int) (A1 : Option Addr) (c1 : Nat) (l1 : List Int) (r : List Int) (w : World) (hr0 : Kd.C (Kd.int .u32) w A0 l0.length l0) (hc0 : l0.length ≤ c0) (hr1 : Kd.C (Kd.int .u32) w A1 l1.length l1) (hc1 : l1.length ≤ c1) (h : quo_GcdC.f l0 l1 = some r) :
    Calls Tryz.prog 91 #[.slice A0 l0.length c0, .slice A1 l1.length c1] w fun e w' => ∃ v0_ : Value, e = .returned (v0_) ∧ Kd.R (Kd.int .u32) 56 w' w.heap.size (fun _ => True) v0_ r ∧ Below w.heap.size w w' := by
  unfold quo_GcdC.f at h
  by_cases hg : okN l0 = true ∧ okN l1 = true ∧ l0.length ≤ 1048000 ∧ l1.length ≤ 1048000
  · rw [if_pos hg] at h
    obtain ⟨k0, k1, n0, n1⟩ := hg
    refine quo_Gcd.calls (valB 4294967296 l1 + 1) A0 c0 l0 A1 c1 l1 r w hr0 hc0 hr1 hc1 ?_
    have d0 := (okN_iff.1 k0).2
    have d1 := (okN_iff.1 k1).2
    unfold quo_Gcd.f
    rw [trim_f k0, Option.bind_some, trim_f k1, Option.bind_some, trimL_eq (by decide) d0, trimL_eq (by decide) d1, ← h]
    obtain ⟨n, hn⟩ : ∃ n, max l0.length l1.length = n := ⟨_, rfl⟩
    have m0 : 4294967296 ^ l0.length ≤ 4294967296 ^ n := Nat.pow_le_pow_right (by decide) (by omega)
    have m1 : 4294967296 ^ l1.length ≤ 4294967296 ^ n := Nat.pow_le_pow_right (by decide) (by omega)
    exact gcd_law n (by omega) _ _ _ (Nat.lt_of_lt_of_le (valB_lt _ _ d0) m0) (Nat.lt_of_lt_of_le (valB_lt _ _ d1) m1) (Nat.lt_succ_self _)
  · rw [if_neg hg] at h; cases h
theorem below_setRow {B g : Nat} {a w : World} (h : Below B a w) (hg : B ≤ g) (cs : Array Value) : Below B a (w.setRow g cs) :=
  h.trans ⟨rfl, rfl, rfl, by simp [World.setRow], fun k hk => setRow_other _ _ _ _ (by omega)⟩
theorem store_row_any {P : Program} {ops : Array Oper} {rest : List Oper} {o : Oper} {a : Act} {w : World} {Q : Exit → Act → World → Prop} (hgd : o.guard = none) (ty : TypeId) (x y : Operand) (ho : o.op = .store ty x y)
    (g : Nat) (cells : Array Value) (hx : a.eval x = .pointer (some ⟨g, 0, none⟩)) (hy : a.eval y = .agg cells)
    (t : TypeId) (old : Array Value) (hg : w.heap[g]? = some (.cells old t (0, 0))) (hi : (P.info? ty).map (·.size) = some cells.size)
    (hold : old.size = cells.size) (h1 : cells.all (·.oneCell') = true)
    (h : ∀ W5 : World, W5.heap[g]? = some (.cells cells t (0, 0)) → (∀ k, k ≠ g → W5.heap[k]? = w.heap[k]?) → (∀ B, B ≤ g → Below B w W5) → wpList P ops Q rest (a.put o.dst undef) W5) : wpList P ops Q (o :: rest) a w :=
  wpList_store_row hgd ty x y ho g cells hx hy t old hg hi hold h1 (h _ (setRow_heap _ _ _ _ _ _ hg) (fun k hk => setRow_other _ _ _ _ hk) (fun B hB => below_setRow (Below.refl _ _) hB _))
set_option maxRecDepth 100000 in
set_option maxHeartbeats 4000000 in
theorem part_calls {a g : List Int} {na ng : Nat} (A : Option Addr) (ca : Nat) (G : Option Addr) (cg Bg : Nat) (W : World) (hna : a.length = na) (hng : g.length = ng) (hB : Boxed W Bg 23 (.slice G ng cg)) (hA : Kd.C (Kd.int .u32) W A a.length a) (hG : Kd.C (Kd.int .u32) W G g.length g) (h1 : na ≤ ca) (h2 : ng ≤ cg)
    (ka : okN a = true) (kg : okN g = true) (la : na ≤ 1048000) (lg : ng ≤ 1048000) (h0 : valB 4294967296 g ≠ 0) :
    Calls Tryz.prog 92 #[.slice A na ca, .pointer (some ⟨Bg, 0, none⟩)] W fun e W' => ∃ v, e = .returned v ∧ Kd.R (Kd.int .u32) 56 W' W.heap.size (fun _ => True) v (digB 4294967296 (valB 4294967296 a / valB 4294967296 g)) ∧ Below W.heap.size W W' := by
  subst hna
  subst hng
  have hc := hB.cell
  have BY := rat_by.calls A ca a G cg g (digB 4294967296 (valB 4294967296 a / valB 4294967296 g)) W hA h1 hG h2 (by unfold rat_by.f; rw [divmod_f ka kg la lg h0]; rfl)
  have HB := Aside0.mk BY
  clear BY hA hG
  go_enter Tryz.func92, Tryz.ntmps92
  go_wp2_with (go_at_call 93; refine HB.out.mono ?_; rintro e w1 ⟨v, rfl, hr, hb⟩)
  go_ret
  exact ⟨_, rfl, hr, hb⟩
def rat_Make.f (a0 : Bool) (l1 l2 : List Int) : Option (Bool × List Int × List Int × Int) :=
  if okN l1 = true ∧ okN l2 = true ∧ l1.length ≤ 1048000 ∧ l2.length ≤ 1048000 then (if valB 4294967296 l2 = 0 then some (false, [], [], 17) else if valB 4294967296 l1 = 0 then some (false, [], [1], 0) else
    some (a0, digB 4294967296 (valB 4294967296 l1 / Nat.gcd (valB 4294967296 l1) (valB 4294967296 l2)), digB 4294967296 (valB 4294967296 l2 / Nat.gcd (valB 4294967296 l1) (valB 4294967296 l2)), 0)) else none
theorem ratInfo : (Tryz.prog.info? 35).map (·.size) = some 3 := by kernel_rfl
def RatPost (w : World) (n : Bool) (a b : List Int) (x : Int) (e : Ending) (w' : World) : Prop := ∃ v1_ v2_ : Value, e = .returned (.tuple #[.agg #[.bool n, v1_, v2_], .int .i64 x]) ∧ Kd.R (Kd.int .u32) 56 w' w.heap.size (fun k_ => some k_ ≠ (v2_ : Value).ownBlock) v1_ a ∧ Kd.R (Kd.int .u32) 56 w' w.heap.size (fun k_ => some k_ ≠ (v1_ : Value).ownBlock) v2_ b ∧ Below w.heap.size w w'
section
variable (a0 : Bool) (A1 : Option Addr) (c1 : Nat) (l1 : List Int) (A2 : Option Addr) (c2 : Nat) (l2 : List Int) (w : World) (hr1 : Kd.C (Kd.int .u32) w A1 l1.length l1) (hc1 : l1.length ≤ c1) (hr2 : Kd.C (Kd.int .u32) w A2 l2.length l2) (hc2 : l2.length ≤ c2)
  (ok1 : okN l1 = true) (ok2 : okN l2 = true) (n1 : l1.length ≤ 1048000) (n2 : l2.length ≤ 1048000)
include hr1 hc1 hr2 hc2 ok1 ok2 n1 n2
set_option maxRecDepth 100000 in
set_option maxHeartbeats 8000000 in
theorem make_zero_calls (h0 : valB 4294967296 l2 = 0) : Calls Tryz.prog 66 #[.bool a0, .slice A1 l1.length c1, .slice A2 l2.length c2] w (RatPost w false [] [] 17) := by
  have hblk := World.alloc_heap_new w (.cells #[.bool false, .slice none 0 0, .slice none 0 0] 35)
  have B2 := nat_Bits.calls A2 c2 l2 0 (w.alloc (.cells #[.bool false, .slice none 0 0, .slice none 0 0] 35)) (Kd.cA9 hr2 _) hc2 (by unfold nat_Bits.f; rw [if_pos ok2, (bitsL_zero (okN_iff.1 ok2).2).2 h0])
  have HB2 := Aside0.mk B2
  have HBLK := Aside0.mk hblk
  clear B2 hr1 hr2 hblk
  go_enter Tryz.func66, Tryz.ntmps66
  go_wp2_with (first | (go_at_call 90; refine HB2.out.mono ?_; rintro e w1 ⟨rfl, ⟨q, rfl⟩⟩) | ((with_reducible refine gate_store (t := 35) (p := 6) rfl ?_); go_loud (refine store_row_any rfl 35 _ _ rfl w.heap.size #[.bool false, .slice none 0 0, .slice none 0 0] rfl rfl 35 #[.bool false, .slice none 0 0, .slice none 0 0] HBLK.out ratInfo rfl (by simp [Value.oneCell']) ?_); intro W5 hblk5 hoth hbel))
  refine bodyPost_ret (results_ct rfl _ _ w.heap.size 35 _ (0, 0) _ rfl hblk5 Tryz.underlying35 rfl ratInfo) rfl ?_
  exact ⟨_, _, rfl, Kd.R_nil _ _ _ _ _, Kd.R_nil _ _ _ _ _, (bN9 (bA9 (Below.refl _ _) _) _).trans (hbel _ (Nat.le_refl _))⟩
set_option maxRecDepth 100000 in
set_option maxHeartbeats 8000000 in
theorem make_nought_calls (h0 : valB 4294967296 l2 ≠ 0) (h1 : valB 4294967296 l1 = 0) : Calls Tryz.prog 66 #[.bool a0, .slice A1 l1.length c1, .slice A2 l2.length c2] w (RatPost w false [] [1] 0) := by
  have hblk := World.alloc_heap_new w (.cells #[.bool false, .slice none 0 0, .slice none 0 0] 35)
  obtain ⟨b, hb⟩ : ∃ b, bitsL l2 = b := ⟨_, rfl⟩
  have hb0 : b ≠ 0 := by rw [← hb]; exact fun h => h0 ((bitsL_zero (okN_iff.1 ok2).2).1 h)
  have B2 := nat_Bits.calls A2 c2 l2 b (w.alloc (.cells #[.bool false, .slice none 0 0, .slice none 0 0] 35)) (Kd.cA9 hr2 _) hc2 (by unfold nat_Bits.f; rw [if_pos ok2, hb])
  have B1 := fun W k => nat_Bits.calls A1 c1 l1 0 W k hc1 (by unfold nat_Bits.f; rw [if_pos ok1, (bitsL_zero (okN_iff.1 ok1).2).2 h1])
  have ONE := fun W => rat_one.calls [1] W (by
    unfold rat_one.f nat_Of.f
    rw [if_pos (by omega)]
    rw [show (1 : Int).toNat = 1 from rfl, digB_small (by decide) (by decide) (by decide)]
    rfl)
  have hd0 : (b == 0) = false := beq_eq_false_iff_ne.mpr hb0
  have HC1 := Aside0.mk (Kd.cA9 hr1 (.cells #[.bool false, .slice none 0 0, .slice none 0 0] 35))
  have HB2 := Aside0.mk B2
  have HBLK := Aside0.mk hblk
  clear B2 hr1 hr2 hblk hb hb0 h0 h1
  go_enter Tryz.func66, Tryz.ntmps66
  go_wp2_with (first | (go_at_call 90; (with_reducible refine HB2.out.mono ?_); rintro e w1 ⟨rfl, ⟨q, rfl⟩⟩) | (go_at_call 90; (with_reducible refine (B1 _ (Kd.cN9 HC1.out _)).mono ?_); rintro e w1 ⟨rfl, ⟨q2, rfl⟩⟩) | (go_at_call 67; refine (ONE _).mono ?_; rintro e w2 ⟨v, rfl, hrv, hb2⟩; have HRV := Aside0.mk hrv; have HB := Aside0.mk hb2; clear hrv hb2; obtain ⟨Av, cv, rfl⟩ := Kd.rS9 HRV.out) | ((with_reducible refine gate_store (t := 35) (p := 6) rfl ?_); go_loud (refine store_row_any rfl 35 _ _ rfl w.heap.size #[.bool false, .slice none 0 0, .slice Av [(1 : Int)].length cv] rfl rfl 35 #[.bool false, .slice none 0 0, .slice none 0 0] ((HB.out.block _ (by simp)).trans HBLK.out) ratInfo rfl (by simp [Value.oneCell']) ?_); intro W5 hblk5 hoth hbel))
  refine bodyPost_ret (results_ct rfl _ _ w.heap.size 35 _ (0, 0) _ rfl hblk5 Tryz.underlying35 rfl ratInfo) rfl ?_
  have hbe : Below w.heap.size w w2 := (bN9 (bA9 (Below.refl _ _) _) _).trans (HB.out.mono (by simp))
  refine ⟨_, _, rfl, Kd.R_nil _ _ _ _ _, ?_, hbe.trans (hbel _ (Nat.le_refl _))⟩
  have hR := Kd.R_bound HRV.out
  refine Kd.R_mono (Kd.rL9 (Kd.R_move hR (fun k hk => hoth k ?_)) (by simp)) (fun k _ h => by cases h)
  have := hk.2.1
  simp at this
  omega
set_option maxRecDepth 100000 in
set_option maxHeartbeats 16000000 in
theorem make_main_calls (h0 : valB 4294967296 l2 ≠ 0) (h1 : valB 4294967296 l1 ≠ 0) : Calls Tryz.prog 66 #[.bool a0, .slice A1 l1.length c1, .slice A2 l2.length c2] w
    (RatPost w a0 (digB 4294967296 (valB 4294967296 l1 / Nat.gcd (valB 4294967296 l1) (valB 4294967296 l2))) (digB 4294967296 (valB 4294967296 l2 / Nat.gcd (valB 4294967296 l1) (valB 4294967296 l2))) 0) := by
  have hblk := World.alloc_heap_new w (.cells #[.bool false, .slice none 0 0, .slice none 0 0] 35)
  obtain ⟨b, hb⟩ : ∃ b, bitsL l2 = b := ⟨_, rfl⟩
  obtain ⟨b', hb'⟩ : ∃ b, bitsL l1 = b := ⟨_, rfl⟩
  have hb0 : b ≠ 0 := by rw [← hb]; exact fun h => h0 ((bitsL_zero (okN_iff.1 ok2).2).1 h)
  have hb0' : b' ≠ 0 := by rw [← hb']; exact fun h => h1 ((bitsL_zero (okN_iff.1 ok1).2).1 h)
  have B2 := nat_Bits.calls A2 c2 l2 b (w.alloc (.cells #[.bool false, .slice none 0 0, .slice none 0 0] 35)) (Kd.cA9 hr2 _) hc2 (by unfold nat_Bits.f; rw [if_pos ok2, hb])
  have B1 := fun W k => nat_Bits.calls A1 c1 l1 b' W k hc1 (by unfold nat_Bits.f; rw [if_pos ok1, hb'])
  have hd0 : (b == 0) = false := beq_eq_false_iff_ne.mpr hb0
  have hd0' : (b' == 0) = false := beq_eq_false_iff_ne.mpr hb0'
  obtain ⟨g, hg⟩ : ∃ g, Nat.gcd (valB 4294967296 l1) (valB 4294967296 l2) = g := ⟨_, rfl⟩
  have hgp : 0 < g := by rw [← hg]; exact Nat.gcd_pos_of_pos_left _ (by omega)
  have hgl : g < 4294967296 ^ l1.length := by
    have h2 := Nat.gcd_le_left (valB 4294967296 l2) (show 0 < valB 4294967296 l1 by omega)
    have h3 := valB_lt 4294967296 l1 (okN_iff.1 ok1).2
    omega
  obtain ⟨gs, hgs⟩ : ∃ gs, digB 4294967296 g = gs := ⟨_, rfl⟩
  have egs : valB 4294967296 gs = g := by rw [← hgs]; exact digB_val _ (by decide) _
  have kgs : okN gs = true := by rw [← hgs]; exact okN_digB hgl (okN_iff.1 ok1).1
  have lgs : gs.length ≤ 1048000 := by rw [← hgs]; exact Nat.le_trans (digB_len (by decide) hgl) n1
  obtain ⟨ng, hng⟩ : ∃ ng, gs.length = ng := ⟨_, rfl⟩
  have GCD := fun W k1 k2 => slice_form (quo_GcdC.calls A1 c1 l1 A2 c2 l2 gs W k1 hc1 k2 hc2 (by unfold quo_GcdC.f; rw [if_pos ⟨ok1, ok2, n1, n2⟩, hg, hgs])) hng
  have P1 := fun G cg Bg W k1 k2 k3 k4 => part_calls (a := l1) (g := gs) A1 c1 G cg Bg W rfl hng k1 k2 k3 hc1 k4 ok1 kgs n1 (hng ▸ lgs) (by rw [egs]; omega)
  have P2 := fun G cg Bg W k1 k2 k3 k4 => part_calls (a := l2) (g := gs) A2 c2 G cg Bg W rfl hng k1 k2 k3 hc2 k4 ok2 kgs n2 (hng ▸ lgs) (by rw [egs]; omega)
  rw [egs] at P1 P2
  rw [hg]
  have HC1 := Aside0.mk (Kd.cA9 hr1 (.cells #[.bool false, .slice none 0 0, .slice none 0 0] 35))
  have HC2 := Aside0.mk (Kd.cA9 hr2 (.cells #[.bool false, .slice none 0 0, .slice none 0 0] 35))
  have HB2 := Aside0.mk B2
  have HBLK := Aside0.mk hblk
  have HNG := Aside0.mk hng
  obtain ⟨qa, hqa⟩ : ∃ q, digB 4294967296 (valB 4294967296 l1 / g) = q := ⟨_, rfl⟩
  obtain ⟨qb, hqb⟩ : ∃ q, digB 4294967296 (valB 4294967296 l2 / g) = q := ⟨_, rfl⟩
  rw [hqa] at P1
  rw [hqb] at P2
  rw [hqa, hqb]
  clear B2 hr1 hr2 hblk hb hb0 h0 h1 hb' hb0' hng hgs hg hqa hqb
  go_enter Tryz.func66, Tryz.ntmps66
  go_wp2_with (first | (go_at_call 90; (with_reducible refine HB2.out.mono ?_); rintro e w1 ⟨rfl, ⟨q, rfl⟩⟩) | (go_at_call 90; (with_reducible refine (B1 _ (Kd.cN9 HC1.out _)).mono ?_); rintro e w1 ⟨rfl, ⟨q2, rfl⟩⟩) | (go_at_call 91; go_loud (refine (GCD _ (Kd.cN9 HC1.out _) (Kd.cN9 HC2.out _)).mono ?_); rintro e w2 ⟨Ag, cg, rfl, hcg, hrg, hb2⟩; have HRG := Aside0.mk hrg; have HB := Aside0.mk hb2; clear hrg hb2) | (go_at_call 92; refine (P1 Ag cg w2.heap.size _ (Boxed.new _ _ _) (Kd.cB9 (Kd.cB9 (Kd.cN9 HC1.out _) HB.out) (bA9 (Below.refl _ _) _)) (C_of_R (Kd.rB9 HRG.out (bA9 (Below.refl _ _) _)) HNG.out) hcg).mono ?_; rintro e w4 ⟨v4, rfl, hr4, hb4⟩; obtain ⟨Aq, cq, rfl⟩ := Kd.rS9 hr4; have HR4 := Aside0.mk hr4; have HB4 := Aside0.mk hb4; clear hr4 hb4) | (go_at_call 92; refine (P2 Ag cg w2.heap.size _ ((HB4.out.block _ (by simp)).trans (Boxed.new _ _ _)) (Kd.cB9 (Kd.cB9 (Kd.cB9 (Kd.cN9 HC2.out _) HB.out) (bA9 (Below.refl _ _) _)) HB4.out) (C_of_R (Kd.rB9 (Kd.rB9 HRG.out (bA9 (Below.refl _ _) _)) HB4.out) HNG.out) hcg).mono ?_; rintro e w5 ⟨v5, rfl, hr5, hb5⟩; obtain ⟨Ar, cr, rfl⟩ := Kd.rS9 hr5; have HR5 := Aside0.mk hr5; have HB5 := Aside0.mk hb5; clear hr5 hb5; have s2 : w.heap.size + 1 ≤ w2.heap.size := by { have := HB.out.size; simpa using this }; have s4 : w2.heap.size + 1 ≤ w4.heap.size := by { have := HB4.out.size; simpa using this }; have s5 := HB5.out.size; have hblk := (HB5.out.block w.heap.size (by omega)).trans ((HB4.out.block w.heap.size (by simp; omega)).trans ((Below.heap_alloc w2 (.cells #[.slice Ag ng cg] 23) w.heap.size (by omega)).trans ((HB.out.block w.heap.size (by simp)).trans HBLK.out)))) | ((with_reducible refine gate_store (t := 35) (p := 6) rfl ?_); go_loud (refine store_row_any rfl 35 _ _ rfl w.heap.size #[.bool a0, .slice Aq qa.length cq, .slice Ar qb.length cr] rfl rfl 35 #[.bool false, .slice none 0 0, .slice none 0 0] hblk ratInfo rfl (by simp [Value.oneCell']) ?_); intro W5 hblk5 hoth hbel))
  refine bodyPost_ret (results_ct rfl _ _ w.heap.size 35 _ (0, 0) _ rfl hblk5 Tryz.underlying35 rfl ratInfo) rfl ?_
  have hb0 : Below w.heap.size w w2 := (bN9 (bA9 (Below.refl _ _) _) _).trans (HB.out.mono (by simp))
  have hb4 : Below w.heap.size w w4 := (bA9 hb0 _).trans (HB4.out.mono (by simp; omega))
  have hb5 : Below w.heap.size w w5 := hb4.trans (HB5.out.mono (by omega))
  have q4 := Kd.R_elder HR4.out HR5.out HB5.out
  have q5 := Kd.R_newR HR5.out HR4.out
  refine ⟨_, _, rfl, ?_, ?_, hb5.trans (hbel _ (Nat.le_refl _))⟩
  · refine Kd.R_mono (Kd.rL9 (Kd.R_move (Kd.R_bound q4) (fun k hk => hoth k ?_)) (by simp; omega)) (fun k hk => hk.1.2)
    have := hk.2.1
    simp at this
    omega
  · refine Kd.R_mono (Kd.rL9 (Kd.R_move (Kd.R_bound q5) (fun k hk => hoth k ?_)) (by omega)) (fun k hk => hk.1.2)
    have := hk.2.1
    omega
end
theorem rat_Make.calls (a0 : Bool) (A1 : Option Addr) (c1 : Nat) (l1 : List Int) (A2 : Option Addr) (c2 : Nat) (l2 : List Int) (r1 : Bool) (r2 r3 : List Int) (r4 : Int) (w : World) (hr1 : Kd.C (Kd.int .u32) w A1 l1.length l1) (hc1 : l1.length ≤ c1) (hr2 : Kd.C (Kd.int .u32) w A2 l2.length l2) (hc2 : l2.length ≤ c2) (h : rat_Make.f a0 l1 l2 = some (r1, r2, r3, r4)) :
    Calls Tryz.prog 66 #[.bool a0, .slice A1 l1.length c1, .slice A2 l2.length c2] w fun e w' => ∃ v1_ v2_ : Value, e = .returned (.tuple #[.agg #[.bool r1, v1_, v2_], .int .i64 r4]) ∧ Kd.R (Kd.int .u32) 56 w' w.heap.size (fun k_ => some k_ ≠ (v2_ : Value).ownBlock) v1_ r2 ∧ Kd.R (Kd.int .u32) 56 w' w.heap.size (fun k_ => some k_ ≠ (v1_ : Value).ownBlock) v2_ r3 ∧ Below w.heap.size w w' := by
  unfold rat_Make.f at h
  by_cases hg : okN l1 = true ∧ okN l2 = true ∧ l1.length ≤ 1048000 ∧ l2.length ≤ 1048000
  · rw [if_pos hg] at h
    obtain ⟨k1, k2, n1, n2⟩ := hg
    by_cases h2 : valB 4294967296 l2 = 0
    · rw [if_pos h2] at h
      obtain ⟨rfl, rfl, rfl, rfl⟩ : false = r1 ∧ [] = r2 ∧ [] = r3 ∧ 17 = r4 := by simpa using h
      exact make_zero_calls a0 A1 c1 l1 A2 c2 l2 w hr1 hc1 hr2 hc2 k1 k2 n1 n2 h2
    · rw [if_neg h2] at h
      by_cases h1 : valB 4294967296 l1 = 0
      · rw [if_pos h1] at h
        obtain ⟨rfl, rfl, rfl, rfl⟩ : false = r1 ∧ [] = r2 ∧ [1] = r3 ∧ 0 = r4 := by simpa using h
        exact make_nought_calls a0 A1 c1 l1 A2 c2 l2 w hr1 hc1 hr2 hc2 k1 k2 n1 n2 h2 h1
      · rw [if_neg h1] at h
        have h := Option.some.inj h
        simp only [Prod.mk.injEq] at h
        obtain ⟨e1, e2, e3, e4⟩ := h
        subst e1 e2 e3 e4
        exact make_main_calls a0 A1 c1 l1 A2 c2 l2 w hr1 hc1 hr2 hc2 k1 k2 n1 n2 h2 h1
  · rw [if_neg hg] at h; cases h
end Go.Proofs.YthppjdmkinbccaaGreatDoor.Print

namespace Go.Proofs.YthppjdmkinbccaaGreatDoor.Print
open Go.RowKit Go.Proofs.YthppjdmkinbccaaGreatDoorW.PrintWords Go.Proofs.YthppjdmkinbccaaGreatDoorW.PrintLast Go.Proofs.YthppjdmkinbccaaGreatDoorW.PrintMore
attribute [local go_sem] max2_int min2_int max_two min_two max_three min_three max_four min_four   -- for this text's walks alone
set_option linter.unusedVariables false
set_option linter.unusedSimpArgs false
def rat_Norm.f (a0_0 : Bool) (l0_1 : List Int) (l0_2 : List Int) : Option (Bool × List Int × List Int) := (rat_Make.f a0_0 l0_1 l0_2).bind fun bt103 => (if bt103.2.2.2 = 0 then (some (bt103.1, bt103.2.1, bt103.2.2.1)) else ((rat_one.f).bind fun t112 => (some (false, ([] : List Int), t112))))
set_option maxHeartbeats 8000000 in
set_option maxRecDepth 100000 in
theorem rat_Norm.calls (a0_0 : Bool) (A0_1 : Option Addr) (c0_1 : Nat) (l0_1 : List Int) (A0_2 : Option Addr) (c0_2 : Nat) (l0_2 : List Int) (r1 : Bool) (r2 : List Int) (r3 : List Int) (w : World) (hr0_1 : Kd.C (Kd.int .u32) w A0_1 l0_1.length l0_1) (hc0_1 : l0_1.length ≤ c0_1) (hr0_2 : Kd.C (Kd.int .u32) w A0_2 l0_2.length l0_2) (hc0_2 : l0_2.length ≤ c0_2) (h : rat_Norm.f a0_0 l0_1 l0_2 = some (r1, r2, r3)) :
  Calls Tryz.prog 39 #[.agg #[.bool a0_0, .slice A0_1 l0_1.length c0_1, .slice A0_2 l0_2.length c0_2]] w fun e w' => ∃ v1_ v2_ : Value, e = .returned (.agg #[.bool r1, v1_, v2_]) ∧ Kd.R (Kd.int .u32) 56 w' w.heap.size (fun k_ => some k_ ≠ (v2_ : Value).ownBlock) v1_ r2 ∧ Kd.R (Kd.int .u32) 56 w' w.heap.size (fun k_ => some k_ ≠ (v1_ : Value).ownBlock) v2_ r3 ∧ Below w.heap.size w w' := by
 have hu35 := Tryz.underlying35
 have HR0_1 := Aside0.mk hr0_1
 have HC0_1 := Aside0.mk hc0_1
 clear hr0_1 hc0_1
 have HR0_2 := Aside0.mk hr0_2
 have HC0_2 := Aside0.mk hc0_2
 clear hr0_2 hc0_2
 have HB := Aside0.mk (Below.refl w.heap.size w)
 have H : ((rat_Make.f a0_0 l0_1 l0_2).bind fun bt103 => (if bt103.2.2.2 = 0 then (some (bt103.1, bt103.2.1, bt103.2.2.1)) else ((rat_one.f).bind fun t112 => (some (false, ([] : List Int), t112))))) = some (r1, r2, r3) := h
 clear h
 replace H := Option.bind_eq_some_iff.mp H
 obtain ⟨⟨t103, t104, t107, t110⟩, A20, H⟩ := H
 (try dsimp only at H)
 have A2 := Aside0.mk A20
 clear A20
 by_cases c3 : t110 = 0
 ·rw [if_pos c3] at H
  have c3b0 : (t110 == 0) = true := beq_iff_eq.mpr c3
  have c3b1 : (t110 != 0) = false := bne_eq_false_iff_eq.mpr c3
  clear c3
  simp only [Option.some.injEq, Prod.mk.injEq] at H
  obtain ⟨rfl, rfl, rfl⟩ := H
  go_enter Tryz.func39, Tryz.ntmps39
  go_wp2_with (first | ((with_reducible refine gD9 (N := 1) rfl ?_); refine bE9 ?hg (N := 1) ?hd (cs := #[.bool a0_0, .slice A0_1 l0_1.length c0_1, .slice A0_2 l0_2.length c0_2]) (t := 35) ?hr ?_; (case hd => rfl); (case hg => rfl); (case hr => first | (go_simp; done) | (go_simp; rfl)); intro gb101 hg w4 hbox hb; have n0_ := Aside0.mk (bT9 (by repeat (first | (with_reducible first | exact HB.out | apply bA9 | apply bN9 | apply bD9) | exact HB.out)) hb); have n1_ := Aside0.mk (hbox); have n2_ := Aside0.mk ((by rw [hg]; exact (bZ9 (by repeat (first | (with_reducible first | exact HB.out | apply bA9 | apply bN9 | apply bD9) | exact HB.out))) : w.heap.size ≤ gb101)); have n3_ := Aside0.mk ((by rw [hg]; exact (bZ9 (by repeat (first | (with_reducible first | exact HB.out | apply bA9 | apply bN9 | apply bD9) | exact HB.out))) : w.heap.size ≤ gb101)); clear HB; have HB := n0_; have BK101 := n1_; have GW101 := n2_; have GE101 := n3_; clear n0_ n1_ n2_ n3_; clear hb hbox hg) | ((with_reducible refine gD9 (N := 2) rfl ?_); refine bE9 ?hg (N := 2) ?hd (cs := #[.bool false, .slice none 0 0, .slice none 0 0]) (t := 35) ?hr ?_; (case hd => rfl); (case hg => rfl); (case hr => first | (go_simp; done) | (go_simp; rfl)); intro gb102 hg w5 hbox hb; have n0_ := Aside0.mk (kB9 (g := gb101) (o := .cells #[.bool a0_0, .slice A0_1 l0_1.length c0_1, .slice A0_2 l0_2.length c0_2] 35 (0, 0)) (by (with_reducible repeat (first | refine kN9 ?_ _ | refine kD9 ?_ | refine kA9 ?_ _)); exact BK101.out) hb); have n1_ := Aside0.mk (bT9 (by repeat (first | (with_reducible first | exact HB.out | apply bA9 | apply bN9 | apply bD9 | refine bS9 ?_ GE101.out) | exact HB.out)) hb); have n2_ := Aside0.mk (hbox); have n3_ := Aside0.mk ((by rw [hg]; exact (bZ9 (by repeat (first | (with_reducible first | exact HB.out | apply bA9 | apply bN9 | apply bD9 | refine bS9 ?_ GE101.out) | exact HB.out))) : w.heap.size ≤ gb102)); have n4_ := Aside0.mk ((by rw [hg]; exact (bZ9 (by repeat (first | (with_reducible first | exact HB.out | apply bA9 | apply bN9 | apply bD9 | refine bS9 ?_ GE101.out) | exact HB.out))) : w.heap.size ≤ gb102)); have n5_ := Aside0.mk ((by rw [hg]; exact Nat.ne_of_lt (blk_lt (g := gb101) (o := .cells #[.bool a0_0, .slice A0_1 l0_1.length c0_1, .slice A0_2 l0_2.length c0_2] 35 (0, 0)) (by (with_reducible repeat (first | refine kN9 ?_ _ | refine kD9 ?_ | refine kA9 ?_ _)); exact BK101.out)) : gb101 ≠ gb102)); have n6_ := Aside0.mk ((by rw [hg]; exact Nat.ne_of_gt (blk_lt (g := gb101) (o := .cells #[.bool a0_0, .slice A0_1 l0_1.length c0_1, .slice A0_2 l0_2.length c0_2] 35 (0, 0)) (by (with_reducible repeat (first | refine kN9 ?_ _ | refine kD9 ?_ | refine kA9 ?_ _)); exact BK101.out)) : gb102 ≠ gb101)); clear BK101; clear HB; have BK101 := n0_; have HB := n1_; have BK102 := n2_; have GW102 := n3_; have GE102 := n4_; have NB101_102 := n5_; have NB102_101 := n6_; clear n0_ n1_ n2_ n3_ n4_ n5_ n6_; clear hb hbox hg; have hnb6 := NB101_102.out; have hnc6 := NB102_101.out; have hcz7_0 : w5.cell? ⟨gb101, 0, none⟩ = some (.bool a0_0) := (kC9 BK101.out 0).trans rfl; have hcz7_1 : w5.cell? ⟨gb101, 1, none⟩ = some (.slice A0_1 l0_1.length c0_1) := (kC9 BK101.out 1).trans rfl; have hcz7_2 : w5.cell? ⟨gb101, 2, none⟩ = some (.slice A0_2 l0_2.length c0_2) := (kC9 BK101.out 2).trans rfl; have hfz7_0 := kF9 BK101.out 0; have hfz7_1 := kF9 BK101.out 1; have hfz7_2 := kF9 BK101.out 2) | ((with_reducible refine gC9 (f := 66) rfl ?_); refine goesL_ (some 12) rfl rfl Tryz.func66 (by kernel_rfl) rfl #[.bool a0_0, .slice A0_1 l0_1.length c0_1, .slice A0_2 l0_2.length c0_2] rfl (by (try simp only [List.map_toArray, List.map_cons, List.map_nil]); first | done | rfl | (simp only [List.length_drop, List.length_take]; rfl)) ?_; (with_reducible refine (rat_Make.calls a0_0 _ _ l0_1 _ _ l0_2 t103 t104 t107 t110 _ ?side1 ?side2 ?side3 ?side4 A2.out).mono ?_); (case side1 => repeat (first | exact (Kd.cB9 HR0_1.out HB.out) | (with_reducible refine Kd.cA9 ?_ _) | (with_reducible refine Kd.cN9 ?_ _) | (with_reducible refine Kd.cD9 ?_))); (case side2 => exact HC0_1.out); (case side3 => repeat (first | exact (Kd.cB9 HR0_2.out HB.out) | (with_reducible refine Kd.cA9 ?_ _) | (with_reducible refine Kd.cN9 ?_ _) | (with_reducible refine Kd.cD9 ?_))); (case side4 => exact HC0_2.out); rintro e w8 ⟨v105, v108, rfl, ho0, ho1, hb⟩; refine ⟨_, rfl, ?_⟩; have n0_ := Aside0.mk (Kd.rL9 ho0 (bZ9 (by repeat (first | (with_reducible first | exact HB.out | apply bA9 | apply bN9 | apply bD9 | refine bS9 ?_ GE101.out | refine bS9 ?_ GE102.out) | exact HB.out)))); have n1_ := Aside0.mk (Kd.rL9 ho1 (bZ9 (by repeat (first | (with_reducible first | exact HB.out | apply bA9 | apply bN9 | apply bD9 | refine bS9 ?_ GE101.out | refine bS9 ?_ GE102.out) | exact HB.out)))); have n2_ := Aside0.mk (kB9 (g := gb101) (o := .cells #[.bool a0_0, .slice A0_1 l0_1.length c0_1, .slice A0_2 l0_2.length c0_2] 35 (0, 0)) (by (with_reducible repeat (first | refine kN9 ?_ _ | refine kD9 ?_ | refine kA9 ?_ _)); exact BK101.out) hb); have n3_ := Aside0.mk (kB9 (g := gb102) (o := .cells #[.bool false, .slice none 0 0, .slice none 0 0] 35 (0, 0)) (by (with_reducible repeat (first | refine kN9 ?_ _ | refine kD9 ?_ | refine kA9 ?_ _)); exact BK102.out) hb); have n4_ := Aside0.mk (bT9 (by repeat (first | (with_reducible first | exact HB.out | apply bA9 | apply bN9 | apply bD9 | refine bS9 ?_ GE101.out | refine bS9 ?_ GE102.out) | exact HB.out)) hb); clear BK101; clear BK102; clear HB; have HO106 := n0_; have HO109 := n1_; have BK101 := n2_; have BK102 := n3_; have HB := n4_; clear n0_ n1_ n2_ n3_ n4_; (try clear hb); (try clear hb2); (try clear hk); (try clear hi); (try clear ho0); (try clear ho1)) | ((with_reducible refine gD9 (N := 3) rfl ?_); refine bE9 ?hg (N := 3) ?hd (cs := #[.bool false, .slice none 0 0, .slice none 0 0]) (t := 35) ?hr ?_; (case hd => rfl); (case hg => rfl); (case hr => first | (go_simp; done) | (go_simp; rfl)); intro gb111 hg w9 hbox hb; have n0_ := Aside0.mk (Kd.rB9 (by (with_reducible repeat (first | apply Kd.rA9 | apply Kd.rN9 | apply Kd.rD9)); exact HO106.out) hb); have n1_ := Aside0.mk (Kd.rB9 (by (with_reducible repeat (first | apply Kd.rA9 | apply Kd.rN9 | apply Kd.rD9)); exact HO109.out) hb); have n2_ := Aside0.mk (kB9 (g := gb101) (o := .cells #[.bool a0_0, .slice A0_1 l0_1.length c0_1, .slice A0_2 l0_2.length c0_2] 35 (0, 0)) (by (with_reducible repeat (first | refine kN9 ?_ _ | refine kD9 ?_ | refine kA9 ?_ _)); exact BK101.out) hb); have n3_ := Aside0.mk (kB9 (g := gb102) (o := .cells #[.bool false, .slice none 0 0, .slice none 0 0] 35 (0, 0)) (by (with_reducible repeat (first | refine kN9 ?_ _ | refine kD9 ?_ | refine kA9 ?_ _)); exact BK102.out) hb); have n4_ := Aside0.mk (bT9 (by repeat (first | (with_reducible first | exact HB.out | apply bA9 | apply bN9 | apply bD9 | refine bS9 ?_ GE101.out | refine bS9 ?_ GE102.out) | exact HB.out)) hb); have n5_ := Aside0.mk (hbox); have n6_ := Aside0.mk ((by rw [hg]; exact (bZ9 (by repeat (first | (with_reducible first | exact HB.out | apply bA9 | apply bN9 | apply bD9 | refine bS9 ?_ GE101.out | refine bS9 ?_ GE102.out) | exact HB.out))) : w.heap.size ≤ gb111)); have n7_ := Aside0.mk ((by rw [hg]; exact (bZ9 (by repeat (first | (with_reducible first | exact HB.out | apply bA9 | apply bN9 | apply bD9 | refine bS9 ?_ GE101.out | refine bS9 ?_ GE102.out) | exact HB.out))) : w.heap.size ≤ gb111)); have n8_ := Aside0.mk ((by rw [hg]; exact Nat.ne_of_lt (blk_lt (g := gb101) (o := .cells #[.bool a0_0, .slice A0_1 l0_1.length c0_1, .slice A0_2 l0_2.length c0_2] 35 (0, 0)) (by (with_reducible repeat (first | refine kN9 ?_ _ | refine kD9 ?_ | refine kA9 ?_ _)); exact BK101.out)) : gb101 ≠ gb111)); have n9_ := Aside0.mk ((by rw [hg]; exact Nat.ne_of_gt (blk_lt (g := gb101) (o := .cells #[.bool a0_0, .slice A0_1 l0_1.length c0_1, .slice A0_2 l0_2.length c0_2] 35 (0, 0)) (by (with_reducible repeat (first | refine kN9 ?_ _ | refine kD9 ?_ | refine kA9 ?_ _)); exact BK101.out)) : gb111 ≠ gb101)); have n10_ := Aside0.mk ((by rw [hg]; exact Nat.ne_of_lt (blk_lt (g := gb102) (o := .cells #[.bool false, .slice none 0 0, .slice none 0 0] 35 (0, 0)) (by (with_reducible repeat (first | refine kN9 ?_ _ | refine kD9 ?_ | refine kA9 ?_ _)); exact BK102.out)) : gb102 ≠ gb111)); have n11_ := Aside0.mk ((by rw [hg]; exact Nat.ne_of_gt (blk_lt (g := gb102) (o := .cells #[.bool false, .slice none 0 0, .slice none 0 0] 35 (0, 0)) (by (with_reducible repeat (first | refine kN9 ?_ _ | refine kD9 ?_ | refine kA9 ?_ _)); exact BK102.out)) : gb111 ≠ gb102)); clear HO106; clear HO109; clear BK101; clear BK102; clear HB; have HO106 := n0_; have HO109 := n1_; have BK101 := n2_; have BK102 := n3_; have HB := n4_; have BK111 := n5_; have GW111 := n6_; have GE111 := n7_; have NB101_111 := n8_; have NB111_101 := n9_; have NB102_111 := n10_; have NB111_102 := n11_; clear n0_ n1_ n2_ n3_ n4_ n5_ n6_ n7_ n8_ n9_ n10_ n11_; clear hb hbox hg; have hnb10 := NB111_101.out; have hnc10 := NB101_111.out; have hnb11 := NB111_102.out; have hnc11 := NB102_111.out; have hcz12_0 : w9.cell? ⟨gb111, 0, none⟩ = some (.bool false) := (kC9 BK111.out 0).trans rfl; have hcz12_1 : w9.cell? ⟨gb111, 1, none⟩ = some (.slice none 0 0) := (kC9 BK111.out 1).trans rfl; have hcz12_2 : w9.cell? ⟨gb111, 2, none⟩ = some (.slice none 0 0) := (kC9 BK111.out 2).trans rfl; have hfz12_0 := kF9 BK111.out 0; have hfz12_1 := kF9 BK111.out 1; have hfz12_2 := kF9 BK111.out 2; obtain ⟨Ao13, co13, eo13⟩ := Kd.rS9 HO106.out; subst eo13; obtain ⟨Ao14, co14, eo14⟩ := Kd.rS9 HO109.out; subst eo14; have hcz15_0 : w9.cell? ⟨gb102, 0, none⟩ = some (.bool false) := (kC9 BK102.out 0).trans rfl; have hcz15_1 : w9.cell? ⟨gb102, 1, none⟩ = some (.slice none 0 0) := (kC9 BK102.out 1).trans rfl; have hcz15_2 : w9.cell? ⟨gb102, 2, none⟩ = some (.slice none 0 0) := (kC9 BK102.out 2).trans rfl; have hfz15_0 := kF9 BK102.out 0; have hfz15_1 := kF9 BK102.out 1; have hfz15_2 := kF9 BK102.out 2))
  refine bodyPost_ret (results_cell_row rfl _ _ gb102 35 #[.bool t103, .slice Ao13 t104.length co13, .slice Ao14 t107.length co14] (0, 0) _ rfl (by (with_reducible repeat (first | refine kN9 ?_ _ | refine kD9 ?_ | refine kA9 ?_ _)); refine kP9 (cs := #[.bool t103, .slice Ao13 t104.length co13, .slice none 0 0]) ?_ 2 _ rfl; (with_reducible repeat (first | refine kN9 ?_ _ | refine kD9 ?_ | refine kA9 ?_ _)); refine kP9 (cs := #[.bool t103, .slice none 0 0, .slice none 0 0]) ?_ 1 _ rfl; (with_reducible repeat (first | refine kN9 ?_ _ | refine kD9 ?_ | refine kA9 ?_ _)); refine kP9 (cs := #[.bool false, .slice none 0 0, .slice none 0 0]) ?_ 0 _ rfl; (with_reducible repeat (first | refine kN9 ?_ _ | refine kD9 ?_ | refine kA9 ?_ _)); refine blk_far ?_ NB102_111.out _; (with_reducible repeat (first | refine kN9 ?_ _ | refine kD9 ?_ | refine kA9 ?_ _)); refine blk_far ?_ NB102_111.out _; (with_reducible repeat (first | refine kN9 ?_ _ | refine kD9 ?_ | refine kA9 ?_ _)); refine blk_far ?_ NB102_111.out _; (with_reducible repeat (first | refine kN9 ?_ _ | refine kD9 ?_ | refine kA9 ?_ _)); exact BK102.out) Tryz.underlying35 rfl (by kernel_rfl)) rfl ?_
  exact ⟨_, _, by first | rfl | (simp [eN9, eS9] <;> rfl) | (simp [*, eN9, eS9] <;> rfl), by (with_reducible repeat (first | apply Kd.rA9 | apply Kd.rN9 | apply Kd.rD9)); exact Kd.R_mono (Kd.R_far (p := ⟨gb102, 2, none⟩) (Kd.R_far (p := ⟨gb102, 1, none⟩) (Kd.R_far (p := ⟨gb102, 0, none⟩) (Kd.R_far (p := ⟨gb111, 2, none⟩) (Kd.R_far (p := ⟨gb111, 1, none⟩) (Kd.R_far (p := ⟨gb111, 0, none⟩) (Kd.rT9 (Kd.rT9 HO106.out BK111.out (by decide)) BK102.out (by decide)) (fun _ hk => hk.1.2) (.bool t103)) (fun _ hk => hk.1.2) (.slice Ao13 t104.length co13)) (fun _ hk => hk.1.2) (.slice Ao14 t107.length co14)) (fun _ hk => hk.2) (.bool t103)) (fun _ hk => hk.2) (.slice Ao13 t104.length co13)) (fun _ hk => hk.2) (.slice Ao14 t107.length co14)) (fun _ hk => hk.1.1), by (with_reducible repeat (first | apply Kd.rA9 | apply Kd.rN9 | apply Kd.rD9)); exact Kd.R_mono (Kd.R_far (p := ⟨gb102, 2, none⟩) (Kd.R_far (p := ⟨gb102, 1, none⟩) (Kd.R_far (p := ⟨gb102, 0, none⟩) (Kd.R_far (p := ⟨gb111, 2, none⟩) (Kd.R_far (p := ⟨gb111, 1, none⟩) (Kd.R_far (p := ⟨gb111, 0, none⟩) (Kd.rT9 (Kd.rT9 HO109.out BK111.out (by decide)) BK102.out (by decide)) (fun _ hk => hk.1.2) (.bool t103)) (fun _ hk => hk.1.2) (.slice Ao13 t104.length co13)) (fun _ hk => hk.1.2) (.slice Ao14 t107.length co14)) (fun _ hk => hk.2) (.bool t103)) (fun _ hk => hk.2) (.slice Ao13 t104.length co13)) (fun _ hk => hk.2) (.slice Ao14 t107.length co14)) (fun _ hk => hk.1.1), by repeat (first | (with_reducible first | exact HB.out | apply bA9 | apply bN9 | apply bD9 | refine bS9 ?_ GE101.out | refine bS9 ?_ GE102.out | refine bS9 ?_ GE111.out) | exact HB.out)⟩
 ·rw [if_neg c3] at H
  have c3b0 : (t110 == 0) = false := beq_eq_false_iff_ne.mpr c3
  have c3b1 : (t110 != 0) = true := bne_iff_ne.mpr c3
  replace H := Option.bind_eq_some_iff.mp H
  obtain ⟨t112, A160, H⟩ := H
  replace H : (some (false, ([] : List Int), t112)) = some (r1, r2, r3) := H
  have A16 := Aside0.mk A160
  clear A160
  simp only [Option.some.injEq, Prod.mk.injEq] at H
  obtain ⟨rfl, rfl, rfl⟩ := H
  go_enter Tryz.func39, Tryz.ntmps39
  go_wp2_with (first | ((with_reducible refine gD9 (N := 1) rfl ?_); refine bE9 ?hg (N := 1) ?hd (cs := #[.bool a0_0, .slice A0_1 l0_1.length c0_1, .slice A0_2 l0_2.length c0_2]) (t := 35) ?hr ?_; (case hd => rfl); (case hg => rfl); (case hr => first | (go_simp; done) | (go_simp; rfl)); intro gb101 hg w17 hbox hb; have n0_ := Aside0.mk (bT9 (by repeat (first | (with_reducible first | exact HB.out | apply bA9 | apply bN9 | apply bD9) | exact HB.out)) hb); have n1_ := Aside0.mk (hbox); have n2_ := Aside0.mk ((by rw [hg]; exact (bZ9 (by repeat (first | (with_reducible first | exact HB.out | apply bA9 | apply bN9 | apply bD9) | exact HB.out))) : w.heap.size ≤ gb101)); have n3_ := Aside0.mk ((by rw [hg]; exact (bZ9 (by repeat (first | (with_reducible first | exact HB.out | apply bA9 | apply bN9 | apply bD9) | exact HB.out))) : w.heap.size ≤ gb101)); clear HB; have HB := n0_; have BK101 := n1_; have GW101 := n2_; have GE101 := n3_; clear n0_ n1_ n2_ n3_; clear hb hbox hg) | ((with_reducible refine gD9 (N := 2) rfl ?_); refine bE9 ?hg (N := 2) ?hd (cs := #[.bool false, .slice none 0 0, .slice none 0 0]) (t := 35) ?hr ?_; (case hd => rfl); (case hg => rfl); (case hr => first | (go_simp; done) | (go_simp; rfl)); intro gb102 hg w18 hbox hb; have n0_ := Aside0.mk (kB9 (g := gb101) (o := .cells #[.bool a0_0, .slice A0_1 l0_1.length c0_1, .slice A0_2 l0_2.length c0_2] 35 (0, 0)) (by (with_reducible repeat (first | refine kN9 ?_ _ | refine kD9 ?_ | refine kA9 ?_ _)); exact BK101.out) hb); have n1_ := Aside0.mk (bT9 (by repeat (first | (with_reducible first | exact HB.out | apply bA9 | apply bN9 | apply bD9 | refine bS9 ?_ GE101.out) | exact HB.out)) hb); have n2_ := Aside0.mk (hbox); have n3_ := Aside0.mk ((by rw [hg]; exact (bZ9 (by repeat (first | (with_reducible first | exact HB.out | apply bA9 | apply bN9 | apply bD9 | refine bS9 ?_ GE101.out) | exact HB.out))) : w.heap.size ≤ gb102)); have n4_ := Aside0.mk ((by rw [hg]; exact (bZ9 (by repeat (first | (with_reducible first | exact HB.out | apply bA9 | apply bN9 | apply bD9 | refine bS9 ?_ GE101.out) | exact HB.out))) : w.heap.size ≤ gb102)); have n5_ := Aside0.mk ((by rw [hg]; exact Nat.ne_of_lt (blk_lt (g := gb101) (o := .cells #[.bool a0_0, .slice A0_1 l0_1.length c0_1, .slice A0_2 l0_2.length c0_2] 35 (0, 0)) (by (with_reducible repeat (first | refine kN9 ?_ _ | refine kD9 ?_ | refine kA9 ?_ _)); exact BK101.out)) : gb101 ≠ gb102)); have n6_ := Aside0.mk ((by rw [hg]; exact Nat.ne_of_gt (blk_lt (g := gb101) (o := .cells #[.bool a0_0, .slice A0_1 l0_1.length c0_1, .slice A0_2 l0_2.length c0_2] 35 (0, 0)) (by (with_reducible repeat (first | refine kN9 ?_ _ | refine kD9 ?_ | refine kA9 ?_ _)); exact BK101.out)) : gb102 ≠ gb101)); clear BK101; clear HB; have BK101 := n0_; have HB := n1_; have BK102 := n2_; have GW102 := n3_; have GE102 := n4_; have NB101_102 := n5_; have NB102_101 := n6_; clear n0_ n1_ n2_ n3_ n4_ n5_ n6_; clear hb hbox hg; have hnb19 := NB101_102.out; have hnc19 := NB102_101.out; have hcz20_0 : w18.cell? ⟨gb101, 0, none⟩ = some (.bool a0_0) := (kC9 BK101.out 0).trans rfl; have hcz20_1 : w18.cell? ⟨gb101, 1, none⟩ = some (.slice A0_1 l0_1.length c0_1) := (kC9 BK101.out 1).trans rfl; have hcz20_2 : w18.cell? ⟨gb101, 2, none⟩ = some (.slice A0_2 l0_2.length c0_2) := (kC9 BK101.out 2).trans rfl; have hfz20_0 := kF9 BK101.out 0; have hfz20_1 := kF9 BK101.out 1; have hfz20_2 := kF9 BK101.out 2) | ((with_reducible refine gC9 (f := 66) rfl ?_); refine goesL_ (some 12) rfl rfl Tryz.func66 (by kernel_rfl) rfl #[.bool a0_0, .slice A0_1 l0_1.length c0_1, .slice A0_2 l0_2.length c0_2] rfl (by (try simp only [List.map_toArray, List.map_cons, List.map_nil]); first | done | rfl | (simp only [List.length_drop, List.length_take]; rfl)) ?_; (with_reducible refine (rat_Make.calls a0_0 _ _ l0_1 _ _ l0_2 t103 t104 t107 t110 _ ?side1 ?side2 ?side3 ?side4 A2.out).mono ?_); (case side1 => repeat (first | exact (Kd.cB9 HR0_1.out HB.out) | (with_reducible refine Kd.cA9 ?_ _) | (with_reducible refine Kd.cN9 ?_ _) | (with_reducible refine Kd.cD9 ?_))); (case side2 => exact HC0_1.out); (case side3 => repeat (first | exact (Kd.cB9 HR0_2.out HB.out) | (with_reducible refine Kd.cA9 ?_ _) | (with_reducible refine Kd.cN9 ?_ _) | (with_reducible refine Kd.cD9 ?_))); (case side4 => exact HC0_2.out); rintro e w21 ⟨v105, v108, rfl, ho0, ho1, hb⟩; refine ⟨_, rfl, ?_⟩; have n0_ := Aside0.mk (Kd.rL9 ho0 (bZ9 (by repeat (first | (with_reducible first | exact HB.out | apply bA9 | apply bN9 | apply bD9 | refine bS9 ?_ GE101.out | refine bS9 ?_ GE102.out) | exact HB.out)))); have n1_ := Aside0.mk (Kd.rL9 ho1 (bZ9 (by repeat (first | (with_reducible first | exact HB.out | apply bA9 | apply bN9 | apply bD9 | refine bS9 ?_ GE101.out | refine bS9 ?_ GE102.out) | exact HB.out)))); have n2_ := Aside0.mk (kB9 (g := gb101) (o := .cells #[.bool a0_0, .slice A0_1 l0_1.length c0_1, .slice A0_2 l0_2.length c0_2] 35 (0, 0)) (by (with_reducible repeat (first | refine kN9 ?_ _ | refine kD9 ?_ | refine kA9 ?_ _)); exact BK101.out) hb); have n3_ := Aside0.mk (kB9 (g := gb102) (o := .cells #[.bool false, .slice none 0 0, .slice none 0 0] 35 (0, 0)) (by (with_reducible repeat (first | refine kN9 ?_ _ | refine kD9 ?_ | refine kA9 ?_ _)); exact BK102.out) hb); have n4_ := Aside0.mk (bT9 (by repeat (first | (with_reducible first | exact HB.out | apply bA9 | apply bN9 | apply bD9 | refine bS9 ?_ GE101.out | refine bS9 ?_ GE102.out) | exact HB.out)) hb); clear BK101; clear BK102; clear HB; have HO106 := n0_; have HO109 := n1_; have BK101 := n2_; have BK102 := n3_; have HB := n4_; clear n0_ n1_ n2_ n3_ n4_; (try clear hb); (try clear hb2); (try clear hk); (try clear hi); (try clear ho0); (try clear ho1)) | ((with_reducible refine gD9 (N := 3) rfl ?_); refine bE9 ?hg (N := 3) ?hd (cs := #[.bool false, .slice none 0 0, .slice none 0 0]) (t := 35) ?hr ?_; (case hd => rfl); (case hg => rfl); (case hr => first | (go_simp; done) | (go_simp; rfl)); intro gb111 hg w22 hbox hb; have n0_ := Aside0.mk (Kd.rB9 (by (with_reducible repeat (first | apply Kd.rA9 | apply Kd.rN9 | apply Kd.rD9)); exact HO106.out) hb); have n1_ := Aside0.mk (Kd.rB9 (by (with_reducible repeat (first | apply Kd.rA9 | apply Kd.rN9 | apply Kd.rD9)); exact HO109.out) hb); have n2_ := Aside0.mk (kB9 (g := gb101) (o := .cells #[.bool a0_0, .slice A0_1 l0_1.length c0_1, .slice A0_2 l0_2.length c0_2] 35 (0, 0)) (by (with_reducible repeat (first | refine kN9 ?_ _ | refine kD9 ?_ | refine kA9 ?_ _)); exact BK101.out) hb); have n3_ := Aside0.mk (kB9 (g := gb102) (o := .cells #[.bool false, .slice none 0 0, .slice none 0 0] 35 (0, 0)) (by (with_reducible repeat (first | refine kN9 ?_ _ | refine kD9 ?_ | refine kA9 ?_ _)); exact BK102.out) hb); have n4_ := Aside0.mk (bT9 (by repeat (first | (with_reducible first | exact HB.out | apply bA9 | apply bN9 | apply bD9 | refine bS9 ?_ GE101.out | refine bS9 ?_ GE102.out) | exact HB.out)) hb); have n5_ := Aside0.mk (hbox); have n6_ := Aside0.mk ((by rw [hg]; exact (bZ9 (by repeat (first | (with_reducible first | exact HB.out | apply bA9 | apply bN9 | apply bD9 | refine bS9 ?_ GE101.out | refine bS9 ?_ GE102.out) | exact HB.out))) : w.heap.size ≤ gb111)); have n7_ := Aside0.mk ((by rw [hg]; exact (bZ9 (by repeat (first | (with_reducible first | exact HB.out | apply bA9 | apply bN9 | apply bD9 | refine bS9 ?_ GE101.out | refine bS9 ?_ GE102.out) | exact HB.out))) : w.heap.size ≤ gb111)); have n8_ := Aside0.mk ((by rw [hg]; exact Nat.ne_of_lt (blk_lt (g := gb101) (o := .cells #[.bool a0_0, .slice A0_1 l0_1.length c0_1, .slice A0_2 l0_2.length c0_2] 35 (0, 0)) (by (with_reducible repeat (first | refine kN9 ?_ _ | refine kD9 ?_ | refine kA9 ?_ _)); exact BK101.out)) : gb101 ≠ gb111)); have n9_ := Aside0.mk ((by rw [hg]; exact Nat.ne_of_gt (blk_lt (g := gb101) (o := .cells #[.bool a0_0, .slice A0_1 l0_1.length c0_1, .slice A0_2 l0_2.length c0_2] 35 (0, 0)) (by (with_reducible repeat (first | refine kN9 ?_ _ | refine kD9 ?_ | refine kA9 ?_ _)); exact BK101.out)) : gb111 ≠ gb101)); have n10_ := Aside0.mk ((by rw [hg]; exact Nat.ne_of_lt (blk_lt (g := gb102) (o := .cells #[.bool false, .slice none 0 0, .slice none 0 0] 35 (0, 0)) (by (with_reducible repeat (first | refine kN9 ?_ _ | refine kD9 ?_ | refine kA9 ?_ _)); exact BK102.out)) : gb102 ≠ gb111)); have n11_ := Aside0.mk ((by rw [hg]; exact Nat.ne_of_gt (blk_lt (g := gb102) (o := .cells #[.bool false, .slice none 0 0, .slice none 0 0] 35 (0, 0)) (by (with_reducible repeat (first | refine kN9 ?_ _ | refine kD9 ?_ | refine kA9 ?_ _)); exact BK102.out)) : gb111 ≠ gb102)); clear HO106; clear HO109; clear BK101; clear BK102; clear HB; have HO106 := n0_; have HO109 := n1_; have BK101 := n2_; have BK102 := n3_; have HB := n4_; have BK111 := n5_; have GW111 := n6_; have GE111 := n7_; have NB101_111 := n8_; have NB111_101 := n9_; have NB102_111 := n10_; have NB111_102 := n11_; clear n0_ n1_ n2_ n3_ n4_ n5_ n6_ n7_ n8_ n9_ n10_ n11_; clear hb hbox hg; have hnb23 := NB111_101.out; have hnc23 := NB101_111.out; have hnb24 := NB111_102.out; have hnc24 := NB102_111.out; have hcz25_0 : w22.cell? ⟨gb111, 0, none⟩ = some (.bool false) := (kC9 BK111.out 0).trans rfl; have hcz25_1 : w22.cell? ⟨gb111, 1, none⟩ = some (.slice none 0 0) := (kC9 BK111.out 1).trans rfl; have hcz25_2 : w22.cell? ⟨gb111, 2, none⟩ = some (.slice none 0 0) := (kC9 BK111.out 2).trans rfl; have hfz25_0 := kF9 BK111.out 0; have hfz25_1 := kF9 BK111.out 1; have hfz25_2 := kF9 BK111.out 2; obtain ⟨Ao26, co26, eo26⟩ := Kd.rS9 HO106.out; subst eo26; obtain ⟨Ao27, co27, eo27⟩ := Kd.rS9 HO109.out; subst eo27) | ((with_reducible refine gC9 (f := 67) rfl ?_); refine goesL_ (some 17) rfl rfl Tryz.func67 (by kernel_rfl) rfl #[] rfl (by (try simp only [List.map_toArray, List.map_cons, List.map_nil]); first | done | rfl | (simp only [List.length_drop, List.length_take]; rfl)) ?_; (with_reducible refine (rat_one.calls  t112 _ A16.out).mono ?_); rintro e w28 ⟨v113, rfl, ho0, hb⟩; refine ⟨_, rfl, ?_⟩; have n0_ := Aside0.mk (Kd.R_elder' (by (with_reducible repeat (first | apply Kd.rA9 | apply Kd.rN9 | apply Kd.rD9)); exact (Kd.R_mono (Kd.R_far (p := ⟨gb111, 2, none⟩) (Kd.R_far (p := ⟨gb111, 1, none⟩) (Kd.R_far (p := ⟨gb111, 0, none⟩) (Kd.rT9 HO106.out BK111.out (by decide)) (fun _ hk => hk.2) (.bool t103)) (fun _ hk => hk.2) (.slice Ao26 t104.length co26)) (fun _ hk => hk.2) (.slice Ao27 t107.length co27)) (fun _ h_ => h_.1))) (Kd.R_base ho0) hb); have n1_ := Aside0.mk (Kd.R_elder' (by (with_reducible repeat (first | apply Kd.rA9 | apply Kd.rN9 | apply Kd.rD9)); exact (Kd.R_mono (Kd.R_far (p := ⟨gb111, 2, none⟩) (Kd.R_far (p := ⟨gb111, 1, none⟩) (Kd.R_far (p := ⟨gb111, 0, none⟩) (Kd.rT9 HO109.out BK111.out (by decide)) (fun _ hk => hk.2) (.bool t103)) (fun _ hk => hk.2) (.slice Ao26 t104.length co26)) (fun _ hk => hk.2) (.slice Ao27 t107.length co27)) (fun _ h_ => h_.1))) (Kd.R_base ho0) hb); have n2_ := Aside0.mk (Kd.rL9 (Kd.R_new' (Kd.R_new' ho0 (Kd.R_lt (by (with_reducible repeat (first | apply Kd.rA9 | apply Kd.rN9 | apply Kd.rD9)); exact (Kd.R_mono (Kd.R_far (p := ⟨gb111, 2, none⟩) (Kd.R_far (p := ⟨gb111, 1, none⟩) (Kd.R_far (p := ⟨gb111, 0, none⟩) (Kd.rT9 HO106.out BK111.out (by decide)) (fun _ hk => hk.2) (.bool t103)) (fun _ hk => hk.2) (.slice Ao26 t104.length co26)) (fun _ hk => hk.2) (.slice Ao27 t107.length co27)) (fun _ h_ => h_.1))))) (Kd.R_lt (by (with_reducible repeat (first | apply Kd.rA9 | apply Kd.rN9 | apply Kd.rD9)); exact (Kd.R_mono (Kd.R_far (p := ⟨gb111, 2, none⟩) (Kd.R_far (p := ⟨gb111, 1, none⟩) (Kd.R_far (p := ⟨gb111, 0, none⟩) (Kd.rT9 HO109.out BK111.out (by decide)) (fun _ hk => hk.2) (.bool t103)) (fun _ hk => hk.2) (.slice Ao26 t104.length co26)) (fun _ hk => hk.2) (.slice Ao27 t107.length co27)) (fun _ h_ => h_.1))))) (bZ9 (by repeat (first | (with_reducible first | exact HB.out | apply bA9 | apply bN9 | apply bD9 | refine bS9 ?_ GE101.out | refine bS9 ?_ GE102.out | refine bS9 ?_ GE111.out) | exact HB.out)))); have n3_ := Aside0.mk (kB9 (g := gb101) (o := .cells #[.bool a0_0, .slice A0_1 l0_1.length c0_1, .slice A0_2 l0_2.length c0_2] 35 (0, 0)) (by (with_reducible repeat (first | refine kN9 ?_ _ | refine kD9 ?_ | refine kA9 ?_ _)); refine blk_far ?_ NB101_111.out _; (with_reducible repeat (first | refine kN9 ?_ _ | refine kD9 ?_ | refine kA9 ?_ _)); refine blk_far ?_ NB101_111.out _; (with_reducible repeat (first | refine kN9 ?_ _ | refine kD9 ?_ | refine kA9 ?_ _)); refine blk_far ?_ NB101_111.out _; (with_reducible repeat (first | refine kN9 ?_ _ | refine kD9 ?_ | refine kA9 ?_ _)); exact BK101.out) hb); have n4_ := Aside0.mk (kB9 (g := gb102) (o := .cells #[.bool false, .slice none 0 0, .slice none 0 0] 35 (0, 0)) (by (with_reducible repeat (first | refine kN9 ?_ _ | refine kD9 ?_ | refine kA9 ?_ _)); refine blk_far ?_ NB102_111.out _; (with_reducible repeat (first | refine kN9 ?_ _ | refine kD9 ?_ | refine kA9 ?_ _)); refine blk_far ?_ NB102_111.out _; (with_reducible repeat (first | refine kN9 ?_ _ | refine kD9 ?_ | refine kA9 ?_ _)); refine blk_far ?_ NB102_111.out _; (with_reducible repeat (first | refine kN9 ?_ _ | refine kD9 ?_ | refine kA9 ?_ _)); exact BK102.out) hb); have n5_ := Aside0.mk (kB9 (g := gb111) (o := .cells #[.bool t103, .slice Ao26 t104.length co26, .slice Ao27 t107.length co27] 35 (0, 0)) (by (with_reducible repeat (first | refine kN9 ?_ _ | refine kD9 ?_ | refine kA9 ?_ _)); refine kP9 (cs := #[.bool t103, .slice Ao26 t104.length co26, .slice none 0 0]) ?_ 2 _ rfl; (with_reducible repeat (first | refine kN9 ?_ _ | refine kD9 ?_ | refine kA9 ?_ _)); refine kP9 (cs := #[.bool t103, .slice none 0 0, .slice none 0 0]) ?_ 1 _ rfl; (with_reducible repeat (first | refine kN9 ?_ _ | refine kD9 ?_ | refine kA9 ?_ _)); refine kP9 (cs := #[.bool false, .slice none 0 0, .slice none 0 0]) ?_ 0 _ rfl; (with_reducible repeat (first | refine kN9 ?_ _ | refine kD9 ?_ | refine kA9 ?_ _)); exact BK111.out) hb); have n6_ := Aside0.mk (bT9 (by repeat (first | (with_reducible first | exact HB.out | apply bA9 | apply bN9 | apply bD9 | refine bS9 ?_ GE101.out | refine bS9 ?_ GE102.out | refine bS9 ?_ GE111.out) | exact HB.out)) hb); clear HO106; clear HO109; clear BK101; clear BK102; clear BK111; clear HB; have HO106 := n0_; have HO109 := n1_; have HO114 := n2_; have BK101 := n3_; have BK102 := n4_; have BK111 := n5_; have HB := n6_; clear n0_ n1_ n2_ n3_ n4_ n5_ n6_; (try clear hb); (try clear hb2); (try clear hk); (try clear hi); (try clear ho0); obtain ⟨Ao29, co29, eo29⟩ := Kd.rS9 HO114.out; subst eo29; have hcz30_0 : w28.cell? ⟨gb102, 0, none⟩ = some (.bool false) := (kC9 BK102.out 0).trans rfl; have hcz30_1 : w28.cell? ⟨gb102, 1, none⟩ = some (.slice none 0 0) := (kC9 BK102.out 1).trans rfl; have hcz30_2 : w28.cell? ⟨gb102, 2, none⟩ = some (.slice none 0 0) := (kC9 BK102.out 2).trans rfl; have hfz30_0 := kF9 BK102.out 0; have hfz30_1 := kF9 BK102.out 1; have hfz30_2 := kF9 BK102.out 2))
  refine bodyPost_ret (results_cell_row rfl _ _ gb102 35 #[.bool false, .slice none 0 0, .slice Ao29 t112.length co29] (0, 0) _ rfl (by (with_reducible repeat (first | refine kN9 ?_ _ | refine kD9 ?_ | refine kA9 ?_ _)); refine kP9 (cs := #[.bool false, .slice none 0 0, .slice none 0 0]) ?_ 2 _ rfl; (with_reducible repeat (first | refine kN9 ?_ _ | refine kD9 ?_ | refine kA9 ?_ _)); refine kP9 (cs := #[.bool false, .slice none 0 0, .slice none 0 0]) ?_ 1 _ rfl; (with_reducible repeat (first | refine kN9 ?_ _ | refine kD9 ?_ | refine kA9 ?_ _)); refine kP9 (cs := #[.bool false, .slice none 0 0, .slice none 0 0]) ?_ 0 _ rfl; (with_reducible repeat (first | refine kN9 ?_ _ | refine kD9 ?_ | refine kA9 ?_ _)); exact BK102.out) Tryz.underlying35 rfl (by kernel_rfl)) rfl ?_
  exact ⟨_, _, by first | rfl | (simp [eN9, eS9] <;> rfl) | (simp [*, eN9, eS9] <;> rfl), by first | exact Kd.R_nil _ _ _ _ _ | exact Kd.N_nil _ _ _ _ _ | exact Kd.V_nil _ _ _ _ _ | exact Kd.Q_nil _ _ _ _ _ | exact Kd.S_nil _ _ _ _ _, by (with_reducible repeat (first | apply Kd.rA9 | apply Kd.rN9 | apply Kd.rD9)); exact Kd.R_mono (Kd.R_far (p := ⟨gb102, 2, none⟩) (Kd.R_far (p := ⟨gb102, 1, none⟩) (Kd.R_far (p := ⟨gb102, 0, none⟩) (Kd.rT9 HO114.out BK102.out (by decide)) (fun _ hk => hk.2) (.bool false)) (fun _ hk => hk.2) (.slice none 0 0)) (fun _ hk => hk.2) (.slice Ao29 t112.length co29)) (fun _ hk => (by simp [Value.ownBlock])), by repeat (first | (with_reducible first | exact HB.out | apply bA9 | apply bN9 | apply bD9 | refine bS9 ?_ GE101.out | refine bS9 ?_ GE102.out | refine bS9 ?_ GE111.out) | exact HB.out)⟩
def rat_limbs.f (l0 : List Int) (l1 : List Int) : Option (Bool) := if (l0.length : Int) = (l1.length : Int) then ((nat_Cmp.f l0 l1).bind fun t115 => (some (t115 == 0))) else (some false)
set_option maxHeartbeats 8000000 in
set_option maxRecDepth 100000 in
theorem rat_limbs.calls (A0 : Option Addr) (c0 : Nat) (l0 : List Int) (A1 : Option Addr) (c1 : Nat) (l1 : List Int) (r : Bool) (w : World) (hr0 : Kd.C (Kd.int .u32) w A0 l0.length l0) (hc0 : l0.length ≤ c0) (hr1 : Kd.C (Kd.int .u32) w A1 l1.length l1) (hc1 : l1.length ≤ c1) (h : rat_limbs.f l0 l1 = some r) :
  Calls Tryz.prog 72 #[.slice A0 l0.length c0, .slice A1 l1.length c1] w fun e w' => e = .returned (.bool r) ∧ Below w.heap.size w w' := by
 have HR0 := Aside0.mk hr0
 have HC0 := Aside0.mk hc0
 clear hr0 hc0
 have HR1 := Aside0.mk hr1
 have HC1 := Aside0.mk hc1
 clear hr1 hc1
 have HB := Aside0.mk (Below.refl w.heap.size w)
 have H : (if (l0.length : Int) = (l1.length : Int) then ((nat_Cmp.f l0 l1).bind fun t115 => (some (t115 == 0))) else (some false)) = some r := h
 clear h
 by_cases c3 : (l0.length : Int) = (l1.length : Int)
 ·rw [if_pos c3] at H
  have c3b0 : ((l0.length : Int) == (l1.length : Int)) = true := beq_iff_eq.mpr c3
  have c3b1 : ((l0.length : Int) != (l1.length : Int)) = false := bne_eq_false_iff_eq.mpr c3
  have c3b2 : (l0.length == l1.length) = true := by first | simpa using c3 | (simp at c3 ⊢; omega)
  clear c3
  replace H := Option.bind_eq_some_iff.mp H
  obtain ⟨t115, A40, H⟩ := H
  replace H : (some (t115 == 0)) = some r := H
  have A4 := Aside0.mk A40
  clear A40
  obtain rfl := Option.some.inj H
  go_enter Tryz.func72, Tryz.ntmps72
  go_wp2_with (first | (go_at_call 28; (with_reducible refine (nat_Cmp.calls _ _ l0 _ _ l1 t115 _ ?side1 ?side2 ?side3 ?side4 A4.out).mono ?_); (case side1 => repeat (first | exact HR0.out | (with_reducible refine Kd.cA9 ?_ _) | (with_reducible refine Kd.cN9 ?_ _) | (with_reducible refine Kd.cD9 ?_))); (case side2 => exact HC0.out); (case side3 => repeat (first | exact HR1.out | (with_reducible refine Kd.cA9 ?_ _) | (with_reducible refine Kd.cN9 ?_ _) | (with_reducible refine Kd.cD9 ?_))); (case side4 => exact HC1.out); rintro e w5 ⟨rfl, hb⟩; have n0_ := Aside0.mk (bT9 (by repeat (first | (with_reducible first | exact HB.out | apply bA9 | apply bN9 | apply bD9) | exact HB.out)) hb); clear HB; have HB := n0_; clear n0_; (try clear hb); (try clear hb2); (try clear hk); (try clear hi)))
  go_ret
  exact ⟨by first | rfl | (simp [eN9, eS9] <;> rfl) | (simp [*, eN9, eS9] <;> rfl), by repeat (first | (with_reducible first | exact HB.out | apply bA9 | apply bN9 | apply bD9) | exact HB.out)⟩
 ·rw [if_neg c3] at H
  have c3b0 : ((l0.length : Int) == (l1.length : Int)) = false := beq_eq_false_iff_ne.mpr c3
  have c3b1 : ((l0.length : Int) != (l1.length : Int)) = true := bne_iff_ne.mpr c3
  have c3b2 : (l0.length == l1.length) = false := by first | simpa using c3 | (simp at c3 ⊢; omega)
  obtain rfl := Option.some.inj H
  go_enter Tryz.func72, Tryz.ntmps72
  go_wp2
  go_ret
  exact ⟨by first | rfl | (simp [eN9, eS9] <;> rfl) | (simp [*, eN9, eS9] <;> rfl), by repeat (first | (with_reducible first | exact HB.out | apply bA9 | apply bN9 | apply bD9) | exact HB.out)⟩
def rat_May.f (a0_0 : Bool) (l0_1 : List Int) (l0_2 : List Int) : Option (Int) := (rat_Norm.f a0_0 l0_1 l0_2).bind fun bt117 => (if (bt117.1 != a0_0) = true then (some 6) else ((rat_limbs.f bt117.2.1 l0_1).bind fun t125 => (if t125 = true then ((rat_limbs.f bt117.2.2 l0_2).bind fun t126 => (if t126 = true then (some 0) else (some 6))) else (some 6))))
set_option maxHeartbeats 8000000 in
set_option maxRecDepth 100000 in
theorem rat_May.calls (a0_0 : Bool) (A0_1 : Option Addr) (c0_1 : Nat) (l0_1 : List Int) (A0_2 : Option Addr) (c0_2 : Nat) (l0_2 : List Int) (r : Int) (w : World) (hr0_1 : Kd.C (Kd.int .u32) w A0_1 l0_1.length l0_1) (hc0_1 : l0_1.length ≤ c0_1) (hr0_2 : Kd.C (Kd.int .u32) w A0_2 l0_2.length l0_2) (hc0_2 : l0_2.length ≤ c0_2) (h : rat_May.f a0_0 l0_1 l0_2 = some r) :
  Calls Tryz.prog 43 #[.agg #[.bool a0_0, .slice A0_1 l0_1.length c0_1, .slice A0_2 l0_2.length c0_2]] w fun e w' => e = .returned (.int .i64 r) ∧ Below w.heap.size w w' := by
 have hu35 := Tryz.underlying35
 have HR0_1 := Aside0.mk hr0_1
 have HC0_1 := Aside0.mk hc0_1
 clear hr0_1 hc0_1
 have HR0_2 := Aside0.mk hr0_2
 have HC0_2 := Aside0.mk hc0_2
 clear hr0_2 hc0_2
 have HB := Aside0.mk (Below.refl w.heap.size w)
 have H : ((rat_Norm.f a0_0 l0_1 l0_2).bind fun bt117 => (if (bt117.1 != a0_0) = true then (some 6) else ((rat_limbs.f bt117.2.1 l0_1).bind fun t125 => (if t125 = true then ((rat_limbs.f bt117.2.2 l0_2).bind fun t126 => (if t126 = true then (some 0) else (some 6))) else (some 6))))) = some r := h
 clear h
 replace H := Option.bind_eq_some_iff.mp H
 obtain ⟨⟨t117, t118, t121⟩, A20, H⟩ := H
 (try dsimp only at H)
 have A2 := Aside0.mk A20
 clear A20
 by_cases c3 : (t117 != a0_0) = true
 ·rw [if_pos c3] at H
  have c3b0 : (t117 != a0_0) = true := c3
  (try (have c3b1 : decide (t117 = a0_0) = false := by simpa using c3))
  (try (have c3b2 : (t117 == a0_0) = false := by simpa using c3))
  (try (have c3b3 : ¬ (t117 = a0_0) := by simpa using c3))
  clear c3
  obtain rfl := Option.some.inj H
  go_enter Tryz.func43, Tryz.ntmps43
  go_wp2_with (first | ((with_reducible refine gD9 (N := 1) rfl ?_); refine bE9 ?hg (N := 1) ?hd (cs := #[.bool a0_0, .slice A0_1 l0_1.length c0_1, .slice A0_2 l0_2.length c0_2]) (t := 35) ?hr ?_; (case hd => rfl); (case hg => rfl); (case hr => first | (go_simp; done) | (go_simp; rfl)); intro gb116 hg w4 hbox hb; have n0_ := Aside0.mk (bT9 (by repeat (first | (with_reducible first | exact HB.out | apply bA9 | apply bN9 | apply bD9) | exact HB.out)) hb); have n1_ := Aside0.mk (hbox); have n2_ := Aside0.mk ((by rw [hg]; exact (bZ9 (by repeat (first | (with_reducible first | exact HB.out | apply bA9 | apply bN9 | apply bD9) | exact HB.out))) : w.heap.size ≤ gb116)); have n3_ := Aside0.mk ((by rw [hg]; exact (bZ9 (by repeat (first | (with_reducible first | exact HB.out | apply bA9 | apply bN9 | apply bD9) | exact HB.out))) : w.heap.size ≤ gb116)); clear HB; have HB := n0_; have BK116 := n1_; have GW116 := n2_; have GE116 := n3_; clear n0_ n1_ n2_ n3_; clear hb hbox hg; have hcz5_0 : w4.cell? ⟨gb116, 0, none⟩ = some (.bool a0_0) := (kC9 BK116.out 0).trans rfl; have hcz5_1 : w4.cell? ⟨gb116, 1, none⟩ = some (.slice A0_1 l0_1.length c0_1) := (kC9 BK116.out 1).trans rfl; have hcz5_2 : w4.cell? ⟨gb116, 2, none⟩ = some (.slice A0_2 l0_2.length c0_2) := (kC9 BK116.out 2).trans rfl; have hfz5_0 := kF9 BK116.out 0; have hfz5_1 := kF9 BK116.out 1; have hfz5_2 := kF9 BK116.out 2) | ((with_reducible refine gC9 (f := 39) rfl ?_); refine goesL_ (some 5) rfl rfl Tryz.func39 (by kernel_rfl) rfl #[.agg #[.bool a0_0, .slice A0_1 l0_1.length c0_1, .slice A0_2 l0_2.length c0_2]] rfl (by (try simp only [List.map_toArray, List.map_cons, List.map_nil]); first | done | rfl | (simp only [List.length_drop, List.length_take]; rfl)) ?_; (with_reducible refine (rat_Norm.calls a0_0 _ _ l0_1 _ _ l0_2 t117 t118 t121 _ ?side1 ?side2 ?side3 ?side4 A2.out).mono ?_); (case side1 => repeat (first | exact (Kd.cB9 HR0_1.out HB.out) | (with_reducible refine Kd.cA9 ?_ _) | (with_reducible refine Kd.cN9 ?_ _) | (with_reducible refine Kd.cD9 ?_))); (case side2 => exact HC0_1.out); (case side3 => repeat (first | exact (Kd.cB9 HR0_2.out HB.out) | (with_reducible refine Kd.cA9 ?_ _) | (with_reducible refine Kd.cN9 ?_ _) | (with_reducible refine Kd.cD9 ?_))); (case side4 => exact HC0_2.out); rintro e w6 ⟨v119, v122, rfl, ho0, ho1, hb⟩; refine ⟨_, rfl, ?_⟩; have n0_ := Aside0.mk (Kd.rL9 ho0 (bZ9 (by repeat (first | (with_reducible first | exact HB.out | apply bA9 | apply bN9 | apply bD9 | refine bS9 ?_ GE116.out) | exact HB.out)))); have n1_ := Aside0.mk (Kd.rL9 ho1 (bZ9 (by repeat (first | (with_reducible first | exact HB.out | apply bA9 | apply bN9 | apply bD9 | refine bS9 ?_ GE116.out) | exact HB.out)))); have n2_ := Aside0.mk (kB9 (g := gb116) (o := .cells #[.bool a0_0, .slice A0_1 l0_1.length c0_1, .slice A0_2 l0_2.length c0_2] 35 (0, 0)) (by (with_reducible repeat (first | refine kN9 ?_ _ | refine kD9 ?_ | refine kA9 ?_ _)); exact BK116.out) hb); have n3_ := Aside0.mk (bT9 (by repeat (first | (with_reducible first | exact HB.out | apply bA9 | apply bN9 | apply bD9 | refine bS9 ?_ GE116.out) | exact HB.out)) hb); clear BK116; clear HB; have HO120 := n0_; have HO123 := n1_; have BK116 := n2_; have HB := n3_; clear n0_ n1_ n2_ n3_; (try clear hb); (try clear hb2); (try clear hk); (try clear hi); (try clear ho0); (try clear ho1)) | ((with_reducible refine gD9 (N := 3) rfl ?_); refine bE9 ?hg (N := 3) ?hd (cs := #[.bool false, .slice none 0 0, .slice none 0 0]) (t := 35) ?hr ?_; (case hd => rfl); (case hg => rfl); (case hr => first | (go_simp; done) | (go_simp; rfl)); intro gb124 hg w7 hbox hb; have n0_ := Aside0.mk (Kd.rB9 (by (with_reducible repeat (first | apply Kd.rA9 | apply Kd.rN9 | apply Kd.rD9)); exact HO120.out) hb); have n1_ := Aside0.mk (Kd.rB9 (by (with_reducible repeat (first | apply Kd.rA9 | apply Kd.rN9 | apply Kd.rD9)); exact HO123.out) hb); have n2_ := Aside0.mk (kB9 (g := gb116) (o := .cells #[.bool a0_0, .slice A0_1 l0_1.length c0_1, .slice A0_2 l0_2.length c0_2] 35 (0, 0)) (by (with_reducible repeat (first | refine kN9 ?_ _ | refine kD9 ?_ | refine kA9 ?_ _)); exact BK116.out) hb); have n3_ := Aside0.mk (bT9 (by repeat (first | (with_reducible first | exact HB.out | apply bA9 | apply bN9 | apply bD9 | refine bS9 ?_ GE116.out) | exact HB.out)) hb); have n4_ := Aside0.mk (hbox); have n5_ := Aside0.mk ((by rw [hg]; exact (bZ9 (by repeat (first | (with_reducible first | exact HB.out | apply bA9 | apply bN9 | apply bD9 | refine bS9 ?_ GE116.out) | exact HB.out))) : w.heap.size ≤ gb124)); have n6_ := Aside0.mk ((by rw [hg]; exact (bZ9 (by repeat (first | (with_reducible first | exact HB.out | apply bA9 | apply bN9 | apply bD9 | refine bS9 ?_ GE116.out) | exact HB.out))) : w.heap.size ≤ gb124)); have n7_ := Aside0.mk ((by rw [hg]; exact Nat.ne_of_lt (blk_lt (g := gb116) (o := .cells #[.bool a0_0, .slice A0_1 l0_1.length c0_1, .slice A0_2 l0_2.length c0_2] 35 (0, 0)) (by (with_reducible repeat (first | refine kN9 ?_ _ | refine kD9 ?_ | refine kA9 ?_ _)); exact BK116.out)) : gb116 ≠ gb124)); have n8_ := Aside0.mk ((by rw [hg]; exact Nat.ne_of_gt (blk_lt (g := gb116) (o := .cells #[.bool a0_0, .slice A0_1 l0_1.length c0_1, .slice A0_2 l0_2.length c0_2] 35 (0, 0)) (by (with_reducible repeat (first | refine kN9 ?_ _ | refine kD9 ?_ | refine kA9 ?_ _)); exact BK116.out)) : gb124 ≠ gb116)); clear HO120; clear HO123; clear BK116; clear HB; have HO120 := n0_; have HO123 := n1_; have BK116 := n2_; have HB := n3_; have BK124 := n4_; have GW124 := n5_; have GE124 := n6_; have NB116_124 := n7_; have NB124_116 := n8_; clear n0_ n1_ n2_ n3_ n4_ n5_ n6_ n7_ n8_; clear hb hbox hg; have hnb8 := NB124_116.out; have hnc8 := NB116_124.out; have hcz9_0 : w7.cell? ⟨gb124, 0, none⟩ = some (.bool false) := (kC9 BK124.out 0).trans rfl; have hcz9_1 : w7.cell? ⟨gb124, 1, none⟩ = some (.slice none 0 0) := (kC9 BK124.out 1).trans rfl; have hcz9_2 : w7.cell? ⟨gb124, 2, none⟩ = some (.slice none 0 0) := (kC9 BK124.out 2).trans rfl; have hfz9_0 := kF9 BK124.out 0; have hfz9_1 := kF9 BK124.out 1; have hfz9_2 := kF9 BK124.out 2; obtain ⟨Ao10, co10, eo10⟩ := Kd.rS9 HO120.out; subst eo10; obtain ⟨Ao11, co11, eo11⟩ := Kd.rS9 HO123.out; subst eo11; have hcz12_0 : w7.cell? ⟨gb116, 0, none⟩ = some (.bool a0_0) := (kC9 BK116.out 0).trans rfl; have hcz12_1 : w7.cell? ⟨gb116, 1, none⟩ = some (.slice A0_1 l0_1.length c0_1) := (kC9 BK116.out 1).trans rfl; have hcz12_2 : w7.cell? ⟨gb116, 2, none⟩ = some (.slice A0_2 l0_2.length c0_2) := (kC9 BK116.out 2).trans rfl; have hfz12_0 := kF9 BK116.out 0; have hfz12_1 := kF9 BK116.out 1; have hfz12_2 := kF9 BK116.out 2))
  go_ret
  exact ⟨by first | rfl | (simp [eN9, eS9] <;> rfl) | (simp [*, eN9, eS9] <;> rfl), by repeat (first | (with_reducible first | exact HB.out | apply bA9 | apply bN9 | apply bD9 | refine bS9 ?_ GE116.out | refine bS9 ?_ GE124.out) | exact HB.out)⟩
 ·rw [if_neg c3] at H
  have c3b0 : (t117 != a0_0) = false := by simpa using c3
  (try (have c3b1 : decide (t117 = a0_0) = true := by simpa using c3))
  (try (have c3b2 : (t117 == a0_0) = true := by simpa using c3))
  clear c3
  replace H := Option.bind_eq_some_iff.mp H
  obtain ⟨t125, A130, H⟩ := H
  (try dsimp only at H)
  have A13 := Aside0.mk A130
  clear A130
  by_cases c14 : t125 = true
  ·subst c14
   have H1 : ((rat_limbs.f t121 l0_2).bind fun t126 => (if t126 = true then (some 0) else (some 6))) = some r := by rw [if_pos rfl] at H; exact H
   clear H
   have H := H1
   clear H1
   replace H := Option.bind_eq_some_iff.mp H
   obtain ⟨t126, A150, H⟩ := H
   replace H : (if t126 = true then (some 0) else (some 6)) = some r := H
   have A15 := Aside0.mk A150
   clear A150
   by_cases c16 : t126 = true
   ·subst c16
    have H1 : (some 0) = some r := by rw [if_pos rfl] at H; exact H
    clear H
    have H := H1
    clear H1
    obtain rfl := Option.some.inj H
    go_enter Tryz.func43, Tryz.ntmps43
    go_wp2_with (first | ((with_reducible refine gD9 (N := 1) rfl ?_); refine bE9 ?hg (N := 1) ?hd (cs := #[.bool a0_0, .slice A0_1 l0_1.length c0_1, .slice A0_2 l0_2.length c0_2]) (t := 35) ?hr ?_; (case hd => rfl); (case hg => rfl); (case hr => first | (go_simp; done) | (go_simp; rfl)); intro gb116 hg w17 hbox hb; have n0_ := Aside0.mk (bT9 (by repeat (first | (with_reducible first | exact HB.out | apply bA9 | apply bN9 | apply bD9) | exact HB.out)) hb); have n1_ := Aside0.mk (hbox); have n2_ := Aside0.mk ((by rw [hg]; exact (bZ9 (by repeat (first | (with_reducible first | exact HB.out | apply bA9 | apply bN9 | apply bD9) | exact HB.out))) : w.heap.size ≤ gb116)); have n3_ := Aside0.mk ((by rw [hg]; exact (bZ9 (by repeat (first | (with_reducible first | exact HB.out | apply bA9 | apply bN9 | apply bD9) | exact HB.out))) : w.heap.size ≤ gb116)); clear HB; have HB := n0_; have BK116 := n1_; have GW116 := n2_; have GE116 := n3_; clear n0_ n1_ n2_ n3_; clear hb hbox hg; have hcz18_0 : w17.cell? ⟨gb116, 0, none⟩ = some (.bool a0_0) := (kC9 BK116.out 0).trans rfl; have hcz18_1 : w17.cell? ⟨gb116, 1, none⟩ = some (.slice A0_1 l0_1.length c0_1) := (kC9 BK116.out 1).trans rfl; have hcz18_2 : w17.cell? ⟨gb116, 2, none⟩ = some (.slice A0_2 l0_2.length c0_2) := (kC9 BK116.out 2).trans rfl; have hfz18_0 := kF9 BK116.out 0; have hfz18_1 := kF9 BK116.out 1; have hfz18_2 := kF9 BK116.out 2) | ((with_reducible refine gC9 (f := 39) rfl ?_); refine goesL_ (some 5) rfl rfl Tryz.func39 (by kernel_rfl) rfl #[.agg #[.bool a0_0, .slice A0_1 l0_1.length c0_1, .slice A0_2 l0_2.length c0_2]] rfl (by (try simp only [List.map_toArray, List.map_cons, List.map_nil]); first | done | rfl | (simp only [List.length_drop, List.length_take]; rfl)) ?_; (with_reducible refine (rat_Norm.calls a0_0 _ _ l0_1 _ _ l0_2 t117 t118 t121 _ ?side1 ?side2 ?side3 ?side4 A2.out).mono ?_); (case side1 => repeat (first | exact (Kd.cB9 HR0_1.out HB.out) | (with_reducible refine Kd.cA9 ?_ _) | (with_reducible refine Kd.cN9 ?_ _) | (with_reducible refine Kd.cD9 ?_))); (case side2 => exact HC0_1.out); (case side3 => repeat (first | exact (Kd.cB9 HR0_2.out HB.out) | (with_reducible refine Kd.cA9 ?_ _) | (with_reducible refine Kd.cN9 ?_ _) | (with_reducible refine Kd.cD9 ?_))); (case side4 => exact HC0_2.out); rintro e w19 ⟨v119, v122, rfl, ho0, ho1, hb⟩; refine ⟨_, rfl, ?_⟩; have n0_ := Aside0.mk (Kd.rL9 ho0 (bZ9 (by repeat (first | (with_reducible first | exact HB.out | apply bA9 | apply bN9 | apply bD9 | refine bS9 ?_ GE116.out) | exact HB.out)))); have n1_ := Aside0.mk (Kd.rL9 ho1 (bZ9 (by repeat (first | (with_reducible first | exact HB.out | apply bA9 | apply bN9 | apply bD9 | refine bS9 ?_ GE116.out) | exact HB.out)))); have n2_ := Aside0.mk (kB9 (g := gb116) (o := .cells #[.bool a0_0, .slice A0_1 l0_1.length c0_1, .slice A0_2 l0_2.length c0_2] 35 (0, 0)) (by (with_reducible repeat (first | refine kN9 ?_ _ | refine kD9 ?_ | refine kA9 ?_ _)); exact BK116.out) hb); have n3_ := Aside0.mk (bT9 (by repeat (first | (with_reducible first | exact HB.out | apply bA9 | apply bN9 | apply bD9 | refine bS9 ?_ GE116.out) | exact HB.out)) hb); clear BK116; clear HB; have HO120 := n0_; have HO123 := n1_; have BK116 := n2_; have HB := n3_; clear n0_ n1_ n2_ n3_; (try clear hb); (try clear hb2); (try clear hk); (try clear hi); (try clear ho0); (try clear ho1)) | ((with_reducible refine gD9 (N := 3) rfl ?_); refine bE9 ?hg (N := 3) ?hd (cs := #[.bool false, .slice none 0 0, .slice none 0 0]) (t := 35) ?hr ?_; (case hd => rfl); (case hg => rfl); (case hr => first | (go_simp; done) | (go_simp; rfl)); intro gb124 hg w20 hbox hb; have n0_ := Aside0.mk (Kd.rB9 (by (with_reducible repeat (first | apply Kd.rA9 | apply Kd.rN9 | apply Kd.rD9)); exact HO120.out) hb); have n1_ := Aside0.mk (Kd.rB9 (by (with_reducible repeat (first | apply Kd.rA9 | apply Kd.rN9 | apply Kd.rD9)); exact HO123.out) hb); have n2_ := Aside0.mk (kB9 (g := gb116) (o := .cells #[.bool a0_0, .slice A0_1 l0_1.length c0_1, .slice A0_2 l0_2.length c0_2] 35 (0, 0)) (by (with_reducible repeat (first | refine kN9 ?_ _ | refine kD9 ?_ | refine kA9 ?_ _)); exact BK116.out) hb); have n3_ := Aside0.mk (bT9 (by repeat (first | (with_reducible first | exact HB.out | apply bA9 | apply bN9 | apply bD9 | refine bS9 ?_ GE116.out) | exact HB.out)) hb); have n4_ := Aside0.mk (hbox); have n5_ := Aside0.mk ((by rw [hg]; exact (bZ9 (by repeat (first | (with_reducible first | exact HB.out | apply bA9 | apply bN9 | apply bD9 | refine bS9 ?_ GE116.out) | exact HB.out))) : w.heap.size ≤ gb124)); have n6_ := Aside0.mk ((by rw [hg]; exact (bZ9 (by repeat (first | (with_reducible first | exact HB.out | apply bA9 | apply bN9 | apply bD9 | refine bS9 ?_ GE116.out) | exact HB.out))) : w.heap.size ≤ gb124)); have n7_ := Aside0.mk ((by rw [hg]; exact Nat.ne_of_lt (blk_lt (g := gb116) (o := .cells #[.bool a0_0, .slice A0_1 l0_1.length c0_1, .slice A0_2 l0_2.length c0_2] 35 (0, 0)) (by (with_reducible repeat (first | refine kN9 ?_ _ | refine kD9 ?_ | refine kA9 ?_ _)); exact BK116.out)) : gb116 ≠ gb124)); have n8_ := Aside0.mk ((by rw [hg]; exact Nat.ne_of_gt (blk_lt (g := gb116) (o := .cells #[.bool a0_0, .slice A0_1 l0_1.length c0_1, .slice A0_2 l0_2.length c0_2] 35 (0, 0)) (by (with_reducible repeat (first | refine kN9 ?_ _ | refine kD9 ?_ | refine kA9 ?_ _)); exact BK116.out)) : gb124 ≠ gb116)); clear HO120; clear HO123; clear BK116; clear HB; have HO120 := n0_; have HO123 := n1_; have BK116 := n2_; have HB := n3_; have BK124 := n4_; have GW124 := n5_; have GE124 := n6_; have NB116_124 := n7_; have NB124_116 := n8_; clear n0_ n1_ n2_ n3_ n4_ n5_ n6_ n7_ n8_; clear hb hbox hg; have hnb21 := NB124_116.out; have hnc21 := NB116_124.out; have hcz22_0 : w20.cell? ⟨gb124, 0, none⟩ = some (.bool false) := (kC9 BK124.out 0).trans rfl; have hcz22_1 : w20.cell? ⟨gb124, 1, none⟩ = some (.slice none 0 0) := (kC9 BK124.out 1).trans rfl; have hcz22_2 : w20.cell? ⟨gb124, 2, none⟩ = some (.slice none 0 0) := (kC9 BK124.out 2).trans rfl; have hfz22_0 := kF9 BK124.out 0; have hfz22_1 := kF9 BK124.out 1; have hfz22_2 := kF9 BK124.out 2; obtain ⟨Ao23, co23, eo23⟩ := Kd.rS9 HO120.out; subst eo23; obtain ⟨Ao24, co24, eo24⟩ := Kd.rS9 HO123.out; subst eo24; have hcz25_0 : w20.cell? ⟨gb116, 0, none⟩ = some (.bool a0_0) := (kC9 BK116.out 0).trans rfl; have hcz25_1 : w20.cell? ⟨gb116, 1, none⟩ = some (.slice A0_1 l0_1.length c0_1) := (kC9 BK116.out 1).trans rfl; have hcz25_2 : w20.cell? ⟨gb116, 2, none⟩ = some (.slice A0_2 l0_2.length c0_2) := (kC9 BK116.out 2).trans rfl; have hfz25_0 := kF9 BK116.out 0; have hfz25_1 := kF9 BK116.out 1; have hfz25_2 := kF9 BK116.out 2) | (go_at_call 72; (with_reducible refine (rat_limbs.calls _ _ t118 _ _ l0_1 true _ ?side1 ?side2 ?side3 ?side4 A13.out).mono ?_); (case side1 => refine (Kd.rR9 (e := 56) (base := w.heap.size) (ok := fun k_ => some k_ ≠ (.slice Ao24 t121.length co24 : Value).ownBlock) (n := t118.length) (c := co23) ?_).2.2; exact (by (with_reducible repeat (first | apply Kd.rA9 | apply Kd.rN9 | apply Kd.rD9)); exact (Kd.R_mono (Kd.R_far (p := ⟨gb124, 2, none⟩) (Kd.R_far (p := ⟨gb124, 1, none⟩) (Kd.R_far (p := ⟨gb124, 0, none⟩) (Kd.rT9 HO120.out BK124.out (by decide)) (fun _ hk => hk.2) (.bool t117)) (fun _ hk => hk.2) (.slice Ao23 t118.length co23)) (fun _ hk => hk.2) (.slice Ao24 t121.length co24)) (fun _ h_ => h_.1)))); (case side2 => exact (Kd.rR9 HO120.out).2.1); (case side3 => exact Kd.cB9 HR0_1.out (by repeat (first | (with_reducible first | exact HB.out | apply bA9 | apply bN9 | apply bD9 | refine bS9 ?_ GE116.out | refine bS9 ?_ GE124.out) | exact HB.out))); (case side4 => exact HC0_1.out); rintro e w26 ⟨rfl, hb⟩; have n0_ := Aside0.mk (Kd.rB9 (by (with_reducible repeat (first | apply Kd.rA9 | apply Kd.rN9 | apply Kd.rD9)); exact (Kd.R_mono (Kd.R_far (p := ⟨gb124, 2, none⟩) (Kd.R_far (p := ⟨gb124, 1, none⟩) (Kd.R_far (p := ⟨gb124, 0, none⟩) (Kd.rT9 HO120.out BK124.out (by decide)) (fun _ hk => hk.2) (.bool t117)) (fun _ hk => hk.2) (.slice Ao23 t118.length co23)) (fun _ hk => hk.2) (.slice Ao24 t121.length co24)) (fun _ h_ => h_.1))) hb); have n1_ := Aside0.mk (Kd.rB9 (by (with_reducible repeat (first | apply Kd.rA9 | apply Kd.rN9 | apply Kd.rD9)); exact (Kd.R_mono (Kd.R_far (p := ⟨gb124, 2, none⟩) (Kd.R_far (p := ⟨gb124, 1, none⟩) (Kd.R_far (p := ⟨gb124, 0, none⟩) (Kd.rT9 HO123.out BK124.out (by decide)) (fun _ hk => hk.2) (.bool t117)) (fun _ hk => hk.2) (.slice Ao23 t118.length co23)) (fun _ hk => hk.2) (.slice Ao24 t121.length co24)) (fun _ h_ => h_.1))) hb); have n2_ := Aside0.mk (kB9 (g := gb116) (o := .cells #[.bool a0_0, .slice A0_1 l0_1.length c0_1, .slice A0_2 l0_2.length c0_2] 35 (0, 0)) (by (with_reducible repeat (first | refine kN9 ?_ _ | refine kD9 ?_ | refine kA9 ?_ _)); refine blk_far ?_ NB116_124.out _; (with_reducible repeat (first | refine kN9 ?_ _ | refine kD9 ?_ | refine kA9 ?_ _)); refine blk_far ?_ NB116_124.out _; (with_reducible repeat (first | refine kN9 ?_ _ | refine kD9 ?_ | refine kA9 ?_ _)); refine blk_far ?_ NB116_124.out _; (with_reducible repeat (first | refine kN9 ?_ _ | refine kD9 ?_ | refine kA9 ?_ _)); exact BK116.out) hb); have n3_ := Aside0.mk (kB9 (g := gb124) (o := .cells #[.bool t117, .slice Ao23 t118.length co23, .slice Ao24 t121.length co24] 35 (0, 0)) (by (with_reducible repeat (first | refine kN9 ?_ _ | refine kD9 ?_ | refine kA9 ?_ _)); refine kP9 (cs := #[.bool t117, .slice Ao23 t118.length co23, .slice none 0 0]) ?_ 2 _ rfl; (with_reducible repeat (first | refine kN9 ?_ _ | refine kD9 ?_ | refine kA9 ?_ _)); refine kP9 (cs := #[.bool t117, .slice none 0 0, .slice none 0 0]) ?_ 1 _ rfl; (with_reducible repeat (first | refine kN9 ?_ _ | refine kD9 ?_ | refine kA9 ?_ _)); refine kP9 (cs := #[.bool false, .slice none 0 0, .slice none 0 0]) ?_ 0 _ rfl; (with_reducible repeat (first | refine kN9 ?_ _ | refine kD9 ?_ | refine kA9 ?_ _)); exact BK124.out) hb); have n4_ := Aside0.mk (bT9 (by repeat (first | (with_reducible first | exact HB.out | apply bA9 | apply bN9 | apply bD9 | refine bS9 ?_ GE116.out | refine bS9 ?_ GE124.out) | exact HB.out)) hb); clear HO120; clear HO123; clear BK116; clear BK124; clear HB; have HO120 := n0_; have HO123 := n1_; have BK116 := n2_; have BK124 := n3_; have HB := n4_; clear n0_ n1_ n2_ n3_ n4_; (try clear hb); (try clear hb2); (try clear hk); (try clear hi); have hcz27_0 : w26.cell? ⟨gb124, 0, none⟩ = some (.bool t117) := (kC9 BK124.out 0).trans rfl; have hcz27_1 : w26.cell? ⟨gb124, 1, none⟩ = some (.slice Ao23 t118.length co23) := (kC9 BK124.out 1).trans rfl; have hcz27_2 : w26.cell? ⟨gb124, 2, none⟩ = some (.slice Ao24 t121.length co24) := (kC9 BK124.out 2).trans rfl; have hfz27_0 := kF9 BK124.out 0; have hfz27_1 := kF9 BK124.out 1; have hfz27_2 := kF9 BK124.out 2; have hcz28_0 : w26.cell? ⟨gb116, 0, none⟩ = some (.bool a0_0) := (kC9 BK116.out 0).trans rfl; have hcz28_1 : w26.cell? ⟨gb116, 1, none⟩ = some (.slice A0_1 l0_1.length c0_1) := (kC9 BK116.out 1).trans rfl; have hcz28_2 : w26.cell? ⟨gb116, 2, none⟩ = some (.slice A0_2 l0_2.length c0_2) := (kC9 BK116.out 2).trans rfl; have hfz28_0 := kF9 BK116.out 0; have hfz28_1 := kF9 BK116.out 1; have hfz28_2 := kF9 BK116.out 2) | (go_at_call 72; (with_reducible refine (rat_limbs.calls _ _ t121 _ _ l0_2 true _ ?side1 ?side2 ?side3 ?side4 A15.out).mono ?_); (case side1 => repeat (first | exact (Kd.rR9 HO123.out).2.2 | (with_reducible refine Kd.cA9 ?_ _) | (with_reducible refine Kd.cN9 ?_ _) | (with_reducible refine Kd.cD9 ?_))); (case side2 => exact (Kd.rR9 HO123.out).2.1); (case side3 => repeat (first | exact (Kd.cB9 HR0_2.out HB.out) | (with_reducible refine Kd.cA9 ?_ _) | (with_reducible refine Kd.cN9 ?_ _) | (with_reducible refine Kd.cD9 ?_))); (case side4 => exact HC0_2.out); rintro e w29 ⟨rfl, hb⟩; have n0_ := Aside0.mk (Kd.rB9 (by (with_reducible repeat (first | apply Kd.rA9 | apply Kd.rN9 | apply Kd.rD9)); exact HO120.out) hb); have n1_ := Aside0.mk (Kd.rB9 (by (with_reducible repeat (first | apply Kd.rA9 | apply Kd.rN9 | apply Kd.rD9)); exact HO123.out) hb); have n2_ := Aside0.mk (kB9 (g := gb116) (o := .cells #[.bool a0_0, .slice A0_1 l0_1.length c0_1, .slice A0_2 l0_2.length c0_2] 35 (0, 0)) (by (with_reducible repeat (first | refine kN9 ?_ _ | refine kD9 ?_ | refine kA9 ?_ _)); exact BK116.out) hb); have n3_ := Aside0.mk (kB9 (g := gb124) (o := .cells #[.bool t117, .slice Ao23 t118.length co23, .slice Ao24 t121.length co24] 35 (0, 0)) (by (with_reducible repeat (first | refine kN9 ?_ _ | refine kD9 ?_ | refine kA9 ?_ _)); exact BK124.out) hb); have n4_ := Aside0.mk (bT9 (by repeat (first | (with_reducible first | exact HB.out | apply bA9 | apply bN9 | apply bD9 | refine bS9 ?_ GE116.out | refine bS9 ?_ GE124.out) | exact HB.out)) hb); clear HO120; clear HO123; clear BK116; clear BK124; clear HB; have HO120 := n0_; have HO123 := n1_; have BK116 := n2_; have BK124 := n3_; have HB := n4_; clear n0_ n1_ n2_ n3_ n4_; (try clear hb); (try clear hb2); (try clear hk); (try clear hi)))
    go_ret
    exact ⟨by first | rfl | (simp [eN9, eS9] <;> rfl) | (simp [*, eN9, eS9] <;> rfl), by repeat (first | (with_reducible first | exact HB.out | apply bA9 | apply bN9 | apply bD9 | refine bS9 ?_ GE116.out | refine bS9 ?_ GE124.out) | exact HB.out)⟩
   ·replace c16 := Bool.eq_false_iff.mpr c16
    subst c16
    have H1 : (some 6) = some r := by rw [if_neg (show ¬ (false = true) by decide)] at H; exact H
    clear H
    have H := H1
    clear H1
    obtain rfl := Option.some.inj H
    go_enter Tryz.func43, Tryz.ntmps43
    go_wp2_with (first | ((with_reducible refine gD9 (N := 1) rfl ?_); refine bE9 ?hg (N := 1) ?hd (cs := #[.bool a0_0, .slice A0_1 l0_1.length c0_1, .slice A0_2 l0_2.length c0_2]) (t := 35) ?hr ?_; (case hd => rfl); (case hg => rfl); (case hr => first | (go_simp; done) | (go_simp; rfl)); intro gb116 hg w30 hbox hb; have n0_ := Aside0.mk (bT9 (by repeat (first | (with_reducible first | exact HB.out | apply bA9 | apply bN9 | apply bD9) | exact HB.out)) hb); have n1_ := Aside0.mk (hbox); have n2_ := Aside0.mk ((by rw [hg]; exact (bZ9 (by repeat (first | (with_reducible first | exact HB.out | apply bA9 | apply bN9 | apply bD9) | exact HB.out))) : w.heap.size ≤ gb116)); have n3_ := Aside0.mk ((by rw [hg]; exact (bZ9 (by repeat (first | (with_reducible first | exact HB.out | apply bA9 | apply bN9 | apply bD9) | exact HB.out))) : w.heap.size ≤ gb116)); clear HB; have HB := n0_; have BK116 := n1_; have GW116 := n2_; have GE116 := n3_; clear n0_ n1_ n2_ n3_; clear hb hbox hg; have hcz31_0 : w30.cell? ⟨gb116, 0, none⟩ = some (.bool a0_0) := (kC9 BK116.out 0).trans rfl; have hcz31_1 : w30.cell? ⟨gb116, 1, none⟩ = some (.slice A0_1 l0_1.length c0_1) := (kC9 BK116.out 1).trans rfl; have hcz31_2 : w30.cell? ⟨gb116, 2, none⟩ = some (.slice A0_2 l0_2.length c0_2) := (kC9 BK116.out 2).trans rfl; have hfz31_0 := kF9 BK116.out 0; have hfz31_1 := kF9 BK116.out 1; have hfz31_2 := kF9 BK116.out 2) | ((with_reducible refine gC9 (f := 39) rfl ?_); refine goesL_ (some 5) rfl rfl Tryz.func39 (by kernel_rfl) rfl #[.agg #[.bool a0_0, .slice A0_1 l0_1.length c0_1, .slice A0_2 l0_2.length c0_2]] rfl (by (try simp only [List.map_toArray, List.map_cons, List.map_nil]); first | done | rfl | (simp only [List.length_drop, List.length_take]; rfl)) ?_; (with_reducible refine (rat_Norm.calls a0_0 _ _ l0_1 _ _ l0_2 t117 t118 t121 _ ?side1 ?side2 ?side3 ?side4 A2.out).mono ?_); (case side1 => repeat (first | exact (Kd.cB9 HR0_1.out HB.out) | (with_reducible refine Kd.cA9 ?_ _) | (with_reducible refine Kd.cN9 ?_ _) | (with_reducible refine Kd.cD9 ?_))); (case side2 => exact HC0_1.out); (case side3 => repeat (first | exact (Kd.cB9 HR0_2.out HB.out) | (with_reducible refine Kd.cA9 ?_ _) | (with_reducible refine Kd.cN9 ?_ _) | (with_reducible refine Kd.cD9 ?_))); (case side4 => exact HC0_2.out); rintro e w32 ⟨v119, v122, rfl, ho0, ho1, hb⟩; refine ⟨_, rfl, ?_⟩; have n0_ := Aside0.mk (Kd.rL9 ho0 (bZ9 (by repeat (first | (with_reducible first | exact HB.out | apply bA9 | apply bN9 | apply bD9 | refine bS9 ?_ GE116.out) | exact HB.out)))); have n1_ := Aside0.mk (Kd.rL9 ho1 (bZ9 (by repeat (first | (with_reducible first | exact HB.out | apply bA9 | apply bN9 | apply bD9 | refine bS9 ?_ GE116.out) | exact HB.out)))); have n2_ := Aside0.mk (kB9 (g := gb116) (o := .cells #[.bool a0_0, .slice A0_1 l0_1.length c0_1, .slice A0_2 l0_2.length c0_2] 35 (0, 0)) (by (with_reducible repeat (first | refine kN9 ?_ _ | refine kD9 ?_ | refine kA9 ?_ _)); exact BK116.out) hb); have n3_ := Aside0.mk (bT9 (by repeat (first | (with_reducible first | exact HB.out | apply bA9 | apply bN9 | apply bD9 | refine bS9 ?_ GE116.out) | exact HB.out)) hb); clear BK116; clear HB; have HO120 := n0_; have HO123 := n1_; have BK116 := n2_; have HB := n3_; clear n0_ n1_ n2_ n3_; (try clear hb); (try clear hb2); (try clear hk); (try clear hi); (try clear ho0); (try clear ho1)) | ((with_reducible refine gD9 (N := 3) rfl ?_); refine bE9 ?hg (N := 3) ?hd (cs := #[.bool false, .slice none 0 0, .slice none 0 0]) (t := 35) ?hr ?_; (case hd => rfl); (case hg => rfl); (case hr => first | (go_simp; done) | (go_simp; rfl)); intro gb124 hg w33 hbox hb; have n0_ := Aside0.mk (Kd.rB9 (by (with_reducible repeat (first | apply Kd.rA9 | apply Kd.rN9 | apply Kd.rD9)); exact HO120.out) hb); have n1_ := Aside0.mk (Kd.rB9 (by (with_reducible repeat (first | apply Kd.rA9 | apply Kd.rN9 | apply Kd.rD9)); exact HO123.out) hb); have n2_ := Aside0.mk (kB9 (g := gb116) (o := .cells #[.bool a0_0, .slice A0_1 l0_1.length c0_1, .slice A0_2 l0_2.length c0_2] 35 (0, 0)) (by (with_reducible repeat (first | refine kN9 ?_ _ | refine kD9 ?_ | refine kA9 ?_ _)); exact BK116.out) hb); have n3_ := Aside0.mk (bT9 (by repeat (first | (with_reducible first | exact HB.out | apply bA9 | apply bN9 | apply bD9 | refine bS9 ?_ GE116.out) | exact HB.out)) hb); have n4_ := Aside0.mk (hbox); have n5_ := Aside0.mk ((by rw [hg]; exact (bZ9 (by repeat (first | (with_reducible first | exact HB.out | apply bA9 | apply bN9 | apply bD9 | refine bS9 ?_ GE116.out) | exact HB.out))) : w.heap.size ≤ gb124)); have n6_ := Aside0.mk ((by rw [hg]; exact (bZ9 (by repeat (first | (with_reducible first | exact HB.out | apply bA9 | apply bN9 | apply bD9 | refine bS9 ?_ GE116.out) | exact HB.out))) : w.heap.size ≤ gb124)); have n7_ := Aside0.mk ((by rw [hg]; exact Nat.ne_of_lt (blk_lt (g := gb116) (o := .cells #[.bool a0_0, .slice A0_1 l0_1.length c0_1, .slice A0_2 l0_2.length c0_2] 35 (0, 0)) (by (with_reducible repeat (first | refine kN9 ?_ _ | refine kD9 ?_ | refine kA9 ?_ _)); exact BK116.out)) : gb116 ≠ gb124)); have n8_ := Aside0.mk ((by rw [hg]; exact Nat.ne_of_gt (blk_lt (g := gb116) (o := .cells #[.bool a0_0, .slice A0_1 l0_1.length c0_1, .slice A0_2 l0_2.length c0_2] 35 (0, 0)) (by (with_reducible repeat (first | refine kN9 ?_ _ | refine kD9 ?_ | refine kA9 ?_ _)); exact BK116.out)) : gb124 ≠ gb116)); clear HO120; clear HO123; clear BK116; clear HB; have HO120 := n0_; have HO123 := n1_; have BK116 := n2_; have HB := n3_; have BK124 := n4_; have GW124 := n5_; have GE124 := n6_; have NB116_124 := n7_; have NB124_116 := n8_; clear n0_ n1_ n2_ n3_ n4_ n5_ n6_ n7_ n8_; clear hb hbox hg; have hnb34 := NB124_116.out; have hnc34 := NB116_124.out; have hcz35_0 : w33.cell? ⟨gb124, 0, none⟩ = some (.bool false) := (kC9 BK124.out 0).trans rfl; have hcz35_1 : w33.cell? ⟨gb124, 1, none⟩ = some (.slice none 0 0) := (kC9 BK124.out 1).trans rfl; have hcz35_2 : w33.cell? ⟨gb124, 2, none⟩ = some (.slice none 0 0) := (kC9 BK124.out 2).trans rfl; have hfz35_0 := kF9 BK124.out 0; have hfz35_1 := kF9 BK124.out 1; have hfz35_2 := kF9 BK124.out 2; obtain ⟨Ao36, co36, eo36⟩ := Kd.rS9 HO120.out; subst eo36; obtain ⟨Ao37, co37, eo37⟩ := Kd.rS9 HO123.out; subst eo37; have hcz38_0 : w33.cell? ⟨gb116, 0, none⟩ = some (.bool a0_0) := (kC9 BK116.out 0).trans rfl; have hcz38_1 : w33.cell? ⟨gb116, 1, none⟩ = some (.slice A0_1 l0_1.length c0_1) := (kC9 BK116.out 1).trans rfl; have hcz38_2 : w33.cell? ⟨gb116, 2, none⟩ = some (.slice A0_2 l0_2.length c0_2) := (kC9 BK116.out 2).trans rfl; have hfz38_0 := kF9 BK116.out 0; have hfz38_1 := kF9 BK116.out 1; have hfz38_2 := kF9 BK116.out 2) | (go_at_call 72; (with_reducible refine (rat_limbs.calls _ _ t118 _ _ l0_1 true _ ?side1 ?side2 ?side3 ?side4 A13.out).mono ?_); (case side1 => refine (Kd.rR9 (e := 56) (base := w.heap.size) (ok := fun k_ => some k_ ≠ (.slice Ao37 t121.length co37 : Value).ownBlock) (n := t118.length) (c := co36) ?_).2.2; exact (by (with_reducible repeat (first | apply Kd.rA9 | apply Kd.rN9 | apply Kd.rD9)); exact (Kd.R_mono (Kd.R_far (p := ⟨gb124, 2, none⟩) (Kd.R_far (p := ⟨gb124, 1, none⟩) (Kd.R_far (p := ⟨gb124, 0, none⟩) (Kd.rT9 HO120.out BK124.out (by decide)) (fun _ hk => hk.2) (.bool t117)) (fun _ hk => hk.2) (.slice Ao36 t118.length co36)) (fun _ hk => hk.2) (.slice Ao37 t121.length co37)) (fun _ h_ => h_.1)))); (case side2 => exact (Kd.rR9 HO120.out).2.1); (case side3 => exact Kd.cB9 HR0_1.out (by repeat (first | (with_reducible first | exact HB.out | apply bA9 | apply bN9 | apply bD9 | refine bS9 ?_ GE116.out | refine bS9 ?_ GE124.out) | exact HB.out))); (case side4 => exact HC0_1.out); rintro e w39 ⟨rfl, hb⟩; have n0_ := Aside0.mk (Kd.rB9 (by (with_reducible repeat (first | apply Kd.rA9 | apply Kd.rN9 | apply Kd.rD9)); exact (Kd.R_mono (Kd.R_far (p := ⟨gb124, 2, none⟩) (Kd.R_far (p := ⟨gb124, 1, none⟩) (Kd.R_far (p := ⟨gb124, 0, none⟩) (Kd.rT9 HO120.out BK124.out (by decide)) (fun _ hk => hk.2) (.bool t117)) (fun _ hk => hk.2) (.slice Ao36 t118.length co36)) (fun _ hk => hk.2) (.slice Ao37 t121.length co37)) (fun _ h_ => h_.1))) hb); have n1_ := Aside0.mk (Kd.rB9 (by (with_reducible repeat (first | apply Kd.rA9 | apply Kd.rN9 | apply Kd.rD9)); exact (Kd.R_mono (Kd.R_far (p := ⟨gb124, 2, none⟩) (Kd.R_far (p := ⟨gb124, 1, none⟩) (Kd.R_far (p := ⟨gb124, 0, none⟩) (Kd.rT9 HO123.out BK124.out (by decide)) (fun _ hk => hk.2) (.bool t117)) (fun _ hk => hk.2) (.slice Ao36 t118.length co36)) (fun _ hk => hk.2) (.slice Ao37 t121.length co37)) (fun _ h_ => h_.1))) hb); have n2_ := Aside0.mk (kB9 (g := gb116) (o := .cells #[.bool a0_0, .slice A0_1 l0_1.length c0_1, .slice A0_2 l0_2.length c0_2] 35 (0, 0)) (by (with_reducible repeat (first | refine kN9 ?_ _ | refine kD9 ?_ | refine kA9 ?_ _)); refine blk_far ?_ NB116_124.out _; (with_reducible repeat (first | refine kN9 ?_ _ | refine kD9 ?_ | refine kA9 ?_ _)); refine blk_far ?_ NB116_124.out _; (with_reducible repeat (first | refine kN9 ?_ _ | refine kD9 ?_ | refine kA9 ?_ _)); refine blk_far ?_ NB116_124.out _; (with_reducible repeat (first | refine kN9 ?_ _ | refine kD9 ?_ | refine kA9 ?_ _)); exact BK116.out) hb); have n3_ := Aside0.mk (kB9 (g := gb124) (o := .cells #[.bool t117, .slice Ao36 t118.length co36, .slice Ao37 t121.length co37] 35 (0, 0)) (by (with_reducible repeat (first | refine kN9 ?_ _ | refine kD9 ?_ | refine kA9 ?_ _)); refine kP9 (cs := #[.bool t117, .slice Ao36 t118.length co36, .slice none 0 0]) ?_ 2 _ rfl; (with_reducible repeat (first | refine kN9 ?_ _ | refine kD9 ?_ | refine kA9 ?_ _)); refine kP9 (cs := #[.bool t117, .slice none 0 0, .slice none 0 0]) ?_ 1 _ rfl; (with_reducible repeat (first | refine kN9 ?_ _ | refine kD9 ?_ | refine kA9 ?_ _)); refine kP9 (cs := #[.bool false, .slice none 0 0, .slice none 0 0]) ?_ 0 _ rfl; (with_reducible repeat (first | refine kN9 ?_ _ | refine kD9 ?_ | refine kA9 ?_ _)); exact BK124.out) hb); have n4_ := Aside0.mk (bT9 (by repeat (first | (with_reducible first | exact HB.out | apply bA9 | apply bN9 | apply bD9 | refine bS9 ?_ GE116.out | refine bS9 ?_ GE124.out) | exact HB.out)) hb); clear HO120; clear HO123; clear BK116; clear BK124; clear HB; have HO120 := n0_; have HO123 := n1_; have BK116 := n2_; have BK124 := n3_; have HB := n4_; clear n0_ n1_ n2_ n3_ n4_; (try clear hb); (try clear hb2); (try clear hk); (try clear hi); have hcz40_0 : w39.cell? ⟨gb124, 0, none⟩ = some (.bool t117) := (kC9 BK124.out 0).trans rfl; have hcz40_1 : w39.cell? ⟨gb124, 1, none⟩ = some (.slice Ao36 t118.length co36) := (kC9 BK124.out 1).trans rfl; have hcz40_2 : w39.cell? ⟨gb124, 2, none⟩ = some (.slice Ao37 t121.length co37) := (kC9 BK124.out 2).trans rfl; have hfz40_0 := kF9 BK124.out 0; have hfz40_1 := kF9 BK124.out 1; have hfz40_2 := kF9 BK124.out 2; have hcz41_0 : w39.cell? ⟨gb116, 0, none⟩ = some (.bool a0_0) := (kC9 BK116.out 0).trans rfl; have hcz41_1 : w39.cell? ⟨gb116, 1, none⟩ = some (.slice A0_1 l0_1.length c0_1) := (kC9 BK116.out 1).trans rfl; have hcz41_2 : w39.cell? ⟨gb116, 2, none⟩ = some (.slice A0_2 l0_2.length c0_2) := (kC9 BK116.out 2).trans rfl; have hfz41_0 := kF9 BK116.out 0; have hfz41_1 := kF9 BK116.out 1; have hfz41_2 := kF9 BK116.out 2) | (go_at_call 72; (with_reducible refine (rat_limbs.calls _ _ t121 _ _ l0_2 false _ ?side1 ?side2 ?side3 ?side4 A15.out).mono ?_); (case side1 => repeat (first | exact (Kd.rR9 HO123.out).2.2 | (with_reducible refine Kd.cA9 ?_ _) | (with_reducible refine Kd.cN9 ?_ _) | (with_reducible refine Kd.cD9 ?_))); (case side2 => exact (Kd.rR9 HO123.out).2.1); (case side3 => repeat (first | exact (Kd.cB9 HR0_2.out HB.out) | (with_reducible refine Kd.cA9 ?_ _) | (with_reducible refine Kd.cN9 ?_ _) | (with_reducible refine Kd.cD9 ?_))); (case side4 => exact HC0_2.out); rintro e w42 ⟨rfl, hb⟩; have n0_ := Aside0.mk (Kd.rB9 (by (with_reducible repeat (first | apply Kd.rA9 | apply Kd.rN9 | apply Kd.rD9)); exact HO120.out) hb); have n1_ := Aside0.mk (Kd.rB9 (by (with_reducible repeat (first | apply Kd.rA9 | apply Kd.rN9 | apply Kd.rD9)); exact HO123.out) hb); have n2_ := Aside0.mk (kB9 (g := gb116) (o := .cells #[.bool a0_0, .slice A0_1 l0_1.length c0_1, .slice A0_2 l0_2.length c0_2] 35 (0, 0)) (by (with_reducible repeat (first | refine kN9 ?_ _ | refine kD9 ?_ | refine kA9 ?_ _)); exact BK116.out) hb); have n3_ := Aside0.mk (kB9 (g := gb124) (o := .cells #[.bool t117, .slice Ao36 t118.length co36, .slice Ao37 t121.length co37] 35 (0, 0)) (by (with_reducible repeat (first | refine kN9 ?_ _ | refine kD9 ?_ | refine kA9 ?_ _)); exact BK124.out) hb); have n4_ := Aside0.mk (bT9 (by repeat (first | (with_reducible first | exact HB.out | apply bA9 | apply bN9 | apply bD9 | refine bS9 ?_ GE116.out | refine bS9 ?_ GE124.out) | exact HB.out)) hb); clear HO120; clear HO123; clear BK116; clear BK124; clear HB; have HO120 := n0_; have HO123 := n1_; have BK116 := n2_; have BK124 := n3_; have HB := n4_; clear n0_ n1_ n2_ n3_ n4_; (try clear hb); (try clear hb2); (try clear hk); (try clear hi)))
    go_ret
    exact ⟨by first | rfl | (simp [eN9, eS9] <;> rfl) | (simp [*, eN9, eS9] <;> rfl), by repeat (first | (with_reducible first | exact HB.out | apply bA9 | apply bN9 | apply bD9 | refine bS9 ?_ GE116.out | refine bS9 ?_ GE124.out) | exact HB.out)⟩
  ·replace c14 := Bool.eq_false_iff.mpr c14
   subst c14
   have H1 : (some 6) = some r := by rw [if_neg (show ¬ (false = true) by decide)] at H; exact H
   clear H
   have H := H1
   clear H1
   obtain rfl := Option.some.inj H
   go_enter Tryz.func43, Tryz.ntmps43
   go_wp2_with (first | ((with_reducible refine gD9 (N := 1) rfl ?_); refine bE9 ?hg (N := 1) ?hd (cs := #[.bool a0_0, .slice A0_1 l0_1.length c0_1, .slice A0_2 l0_2.length c0_2]) (t := 35) ?hr ?_; (case hd => rfl); (case hg => rfl); (case hr => first | (go_simp; done) | (go_simp; rfl)); intro gb116 hg w43 hbox hb; have n0_ := Aside0.mk (bT9 (by repeat (first | (with_reducible first | exact HB.out | apply bA9 | apply bN9 | apply bD9) | exact HB.out)) hb); have n1_ := Aside0.mk (hbox); have n2_ := Aside0.mk ((by rw [hg]; exact (bZ9 (by repeat (first | (with_reducible first | exact HB.out | apply bA9 | apply bN9 | apply bD9) | exact HB.out))) : w.heap.size ≤ gb116)); have n3_ := Aside0.mk ((by rw [hg]; exact (bZ9 (by repeat (first | (with_reducible first | exact HB.out | apply bA9 | apply bN9 | apply bD9) | exact HB.out))) : w.heap.size ≤ gb116)); clear HB; have HB := n0_; have BK116 := n1_; have GW116 := n2_; have GE116 := n3_; clear n0_ n1_ n2_ n3_; clear hb hbox hg; have hcz44_0 : w43.cell? ⟨gb116, 0, none⟩ = some (.bool a0_0) := (kC9 BK116.out 0).trans rfl; have hcz44_1 : w43.cell? ⟨gb116, 1, none⟩ = some (.slice A0_1 l0_1.length c0_1) := (kC9 BK116.out 1).trans rfl; have hcz44_2 : w43.cell? ⟨gb116, 2, none⟩ = some (.slice A0_2 l0_2.length c0_2) := (kC9 BK116.out 2).trans rfl; have hfz44_0 := kF9 BK116.out 0; have hfz44_1 := kF9 BK116.out 1; have hfz44_2 := kF9 BK116.out 2) | ((with_reducible refine gC9 (f := 39) rfl ?_); refine goesL_ (some 5) rfl rfl Tryz.func39 (by kernel_rfl) rfl #[.agg #[.bool a0_0, .slice A0_1 l0_1.length c0_1, .slice A0_2 l0_2.length c0_2]] rfl (by (try simp only [List.map_toArray, List.map_cons, List.map_nil]); first | done | rfl | (simp only [List.length_drop, List.length_take]; rfl)) ?_; (with_reducible refine (rat_Norm.calls a0_0 _ _ l0_1 _ _ l0_2 t117 t118 t121 _ ?side1 ?side2 ?side3 ?side4 A2.out).mono ?_); (case side1 => repeat (first | exact (Kd.cB9 HR0_1.out HB.out) | (with_reducible refine Kd.cA9 ?_ _) | (with_reducible refine Kd.cN9 ?_ _) | (with_reducible refine Kd.cD9 ?_))); (case side2 => exact HC0_1.out); (case side3 => repeat (first | exact (Kd.cB9 HR0_2.out HB.out) | (with_reducible refine Kd.cA9 ?_ _) | (with_reducible refine Kd.cN9 ?_ _) | (with_reducible refine Kd.cD9 ?_))); (case side4 => exact HC0_2.out); rintro e w45 ⟨v119, v122, rfl, ho0, ho1, hb⟩; refine ⟨_, rfl, ?_⟩; have n0_ := Aside0.mk (Kd.rL9 ho0 (bZ9 (by repeat (first | (with_reducible first | exact HB.out | apply bA9 | apply bN9 | apply bD9 | refine bS9 ?_ GE116.out) | exact HB.out)))); have n1_ := Aside0.mk (Kd.rL9 ho1 (bZ9 (by repeat (first | (with_reducible first | exact HB.out | apply bA9 | apply bN9 | apply bD9 | refine bS9 ?_ GE116.out) | exact HB.out)))); have n2_ := Aside0.mk (kB9 (g := gb116) (o := .cells #[.bool a0_0, .slice A0_1 l0_1.length c0_1, .slice A0_2 l0_2.length c0_2] 35 (0, 0)) (by (with_reducible repeat (first | refine kN9 ?_ _ | refine kD9 ?_ | refine kA9 ?_ _)); exact BK116.out) hb); have n3_ := Aside0.mk (bT9 (by repeat (first | (with_reducible first | exact HB.out | apply bA9 | apply bN9 | apply bD9 | refine bS9 ?_ GE116.out) | exact HB.out)) hb); clear BK116; clear HB; have HO120 := n0_; have HO123 := n1_; have BK116 := n2_; have HB := n3_; clear n0_ n1_ n2_ n3_; (try clear hb); (try clear hb2); (try clear hk); (try clear hi); (try clear ho0); (try clear ho1)) | ((with_reducible refine gD9 (N := 3) rfl ?_); refine bE9 ?hg (N := 3) ?hd (cs := #[.bool false, .slice none 0 0, .slice none 0 0]) (t := 35) ?hr ?_; (case hd => rfl); (case hg => rfl); (case hr => first | (go_simp; done) | (go_simp; rfl)); intro gb124 hg w46 hbox hb; have n0_ := Aside0.mk (Kd.rB9 (by (with_reducible repeat (first | apply Kd.rA9 | apply Kd.rN9 | apply Kd.rD9)); exact HO120.out) hb); have n1_ := Aside0.mk (Kd.rB9 (by (with_reducible repeat (first | apply Kd.rA9 | apply Kd.rN9 | apply Kd.rD9)); exact HO123.out) hb); have n2_ := Aside0.mk (kB9 (g := gb116) (o := .cells #[.bool a0_0, .slice A0_1 l0_1.length c0_1, .slice A0_2 l0_2.length c0_2] 35 (0, 0)) (by (with_reducible repeat (first | refine kN9 ?_ _ | refine kD9 ?_ | refine kA9 ?_ _)); exact BK116.out) hb); have n3_ := Aside0.mk (bT9 (by repeat (first | (with_reducible first | exact HB.out | apply bA9 | apply bN9 | apply bD9 | refine bS9 ?_ GE116.out) | exact HB.out)) hb); have n4_ := Aside0.mk (hbox); have n5_ := Aside0.mk ((by rw [hg]; exact (bZ9 (by repeat (first | (with_reducible first | exact HB.out | apply bA9 | apply bN9 | apply bD9 | refine bS9 ?_ GE116.out) | exact HB.out))) : w.heap.size ≤ gb124)); have n6_ := Aside0.mk ((by rw [hg]; exact (bZ9 (by repeat (first | (with_reducible first | exact HB.out | apply bA9 | apply bN9 | apply bD9 | refine bS9 ?_ GE116.out) | exact HB.out))) : w.heap.size ≤ gb124)); have n7_ := Aside0.mk ((by rw [hg]; exact Nat.ne_of_lt (blk_lt (g := gb116) (o := .cells #[.bool a0_0, .slice A0_1 l0_1.length c0_1, .slice A0_2 l0_2.length c0_2] 35 (0, 0)) (by (with_reducible repeat (first | refine kN9 ?_ _ | refine kD9 ?_ | refine kA9 ?_ _)); exact BK116.out)) : gb116 ≠ gb124)); have n8_ := Aside0.mk ((by rw [hg]; exact Nat.ne_of_gt (blk_lt (g := gb116) (o := .cells #[.bool a0_0, .slice A0_1 l0_1.length c0_1, .slice A0_2 l0_2.length c0_2] 35 (0, 0)) (by (with_reducible repeat (first | refine kN9 ?_ _ | refine kD9 ?_ | refine kA9 ?_ _)); exact BK116.out)) : gb124 ≠ gb116)); clear HO120; clear HO123; clear BK116; clear HB; have HO120 := n0_; have HO123 := n1_; have BK116 := n2_; have HB := n3_; have BK124 := n4_; have GW124 := n5_; have GE124 := n6_; have NB116_124 := n7_; have NB124_116 := n8_; clear n0_ n1_ n2_ n3_ n4_ n5_ n6_ n7_ n8_; clear hb hbox hg; have hnb47 := NB124_116.out; have hnc47 := NB116_124.out; have hcz48_0 : w46.cell? ⟨gb124, 0, none⟩ = some (.bool false) := (kC9 BK124.out 0).trans rfl; have hcz48_1 : w46.cell? ⟨gb124, 1, none⟩ = some (.slice none 0 0) := (kC9 BK124.out 1).trans rfl; have hcz48_2 : w46.cell? ⟨gb124, 2, none⟩ = some (.slice none 0 0) := (kC9 BK124.out 2).trans rfl; have hfz48_0 := kF9 BK124.out 0; have hfz48_1 := kF9 BK124.out 1; have hfz48_2 := kF9 BK124.out 2; obtain ⟨Ao49, co49, eo49⟩ := Kd.rS9 HO120.out; subst eo49; obtain ⟨Ao50, co50, eo50⟩ := Kd.rS9 HO123.out; subst eo50; have hcz51_0 : w46.cell? ⟨gb116, 0, none⟩ = some (.bool a0_0) := (kC9 BK116.out 0).trans rfl; have hcz51_1 : w46.cell? ⟨gb116, 1, none⟩ = some (.slice A0_1 l0_1.length c0_1) := (kC9 BK116.out 1).trans rfl; have hcz51_2 : w46.cell? ⟨gb116, 2, none⟩ = some (.slice A0_2 l0_2.length c0_2) := (kC9 BK116.out 2).trans rfl; have hfz51_0 := kF9 BK116.out 0; have hfz51_1 := kF9 BK116.out 1; have hfz51_2 := kF9 BK116.out 2) | (go_at_call 72; (with_reducible refine (rat_limbs.calls _ _ t118 _ _ l0_1 false _ ?side1 ?side2 ?side3 ?side4 A13.out).mono ?_); (case side1 => refine (Kd.rR9 (e := 56) (base := w.heap.size) (ok := fun k_ => some k_ ≠ (.slice Ao50 t121.length co50 : Value).ownBlock) (n := t118.length) (c := co49) ?_).2.2; exact (by (with_reducible repeat (first | apply Kd.rA9 | apply Kd.rN9 | apply Kd.rD9)); exact (Kd.R_mono (Kd.R_far (p := ⟨gb124, 2, none⟩) (Kd.R_far (p := ⟨gb124, 1, none⟩) (Kd.R_far (p := ⟨gb124, 0, none⟩) (Kd.rT9 HO120.out BK124.out (by decide)) (fun _ hk => hk.2) (.bool t117)) (fun _ hk => hk.2) (.slice Ao49 t118.length co49)) (fun _ hk => hk.2) (.slice Ao50 t121.length co50)) (fun _ h_ => h_.1)))); (case side2 => exact (Kd.rR9 HO120.out).2.1); (case side3 => exact Kd.cB9 HR0_1.out (by repeat (first | (with_reducible first | exact HB.out | apply bA9 | apply bN9 | apply bD9 | refine bS9 ?_ GE116.out | refine bS9 ?_ GE124.out) | exact HB.out))); (case side4 => exact HC0_1.out); rintro e w52 ⟨rfl, hb⟩; have n0_ := Aside0.mk (Kd.rB9 (by (with_reducible repeat (first | apply Kd.rA9 | apply Kd.rN9 | apply Kd.rD9)); exact (Kd.R_mono (Kd.R_far (p := ⟨gb124, 2, none⟩) (Kd.R_far (p := ⟨gb124, 1, none⟩) (Kd.R_far (p := ⟨gb124, 0, none⟩) (Kd.rT9 HO120.out BK124.out (by decide)) (fun _ hk => hk.2) (.bool t117)) (fun _ hk => hk.2) (.slice Ao49 t118.length co49)) (fun _ hk => hk.2) (.slice Ao50 t121.length co50)) (fun _ h_ => h_.1))) hb); have n1_ := Aside0.mk (Kd.rB9 (by (with_reducible repeat (first | apply Kd.rA9 | apply Kd.rN9 | apply Kd.rD9)); exact (Kd.R_mono (Kd.R_far (p := ⟨gb124, 2, none⟩) (Kd.R_far (p := ⟨gb124, 1, none⟩) (Kd.R_far (p := ⟨gb124, 0, none⟩) (Kd.rT9 HO123.out BK124.out (by decide)) (fun _ hk => hk.2) (.bool t117)) (fun _ hk => hk.2) (.slice Ao49 t118.length co49)) (fun _ hk => hk.2) (.slice Ao50 t121.length co50)) (fun _ h_ => h_.1))) hb); have n2_ := Aside0.mk (kB9 (g := gb116) (o := .cells #[.bool a0_0, .slice A0_1 l0_1.length c0_1, .slice A0_2 l0_2.length c0_2] 35 (0, 0)) (by (with_reducible repeat (first | refine kN9 ?_ _ | refine kD9 ?_ | refine kA9 ?_ _)); refine blk_far ?_ NB116_124.out _; (with_reducible repeat (first | refine kN9 ?_ _ | refine kD9 ?_ | refine kA9 ?_ _)); refine blk_far ?_ NB116_124.out _; (with_reducible repeat (first | refine kN9 ?_ _ | refine kD9 ?_ | refine kA9 ?_ _)); refine blk_far ?_ NB116_124.out _; (with_reducible repeat (first | refine kN9 ?_ _ | refine kD9 ?_ | refine kA9 ?_ _)); exact BK116.out) hb); have n3_ := Aside0.mk (kB9 (g := gb124) (o := .cells #[.bool t117, .slice Ao49 t118.length co49, .slice Ao50 t121.length co50] 35 (0, 0)) (by (with_reducible repeat (first | refine kN9 ?_ _ | refine kD9 ?_ | refine kA9 ?_ _)); refine kP9 (cs := #[.bool t117, .slice Ao49 t118.length co49, .slice none 0 0]) ?_ 2 _ rfl; (with_reducible repeat (first | refine kN9 ?_ _ | refine kD9 ?_ | refine kA9 ?_ _)); refine kP9 (cs := #[.bool t117, .slice none 0 0, .slice none 0 0]) ?_ 1 _ rfl; (with_reducible repeat (first | refine kN9 ?_ _ | refine kD9 ?_ | refine kA9 ?_ _)); refine kP9 (cs := #[.bool false, .slice none 0 0, .slice none 0 0]) ?_ 0 _ rfl; (with_reducible repeat (first | refine kN9 ?_ _ | refine kD9 ?_ | refine kA9 ?_ _)); exact BK124.out) hb); have n4_ := Aside0.mk (bT9 (by repeat (first | (with_reducible first | exact HB.out | apply bA9 | apply bN9 | apply bD9 | refine bS9 ?_ GE116.out | refine bS9 ?_ GE124.out) | exact HB.out)) hb); clear HO120; clear HO123; clear BK116; clear BK124; clear HB; have HO120 := n0_; have HO123 := n1_; have BK116 := n2_; have BK124 := n3_; have HB := n4_; clear n0_ n1_ n2_ n3_ n4_; (try clear hb); (try clear hb2); (try clear hk); (try clear hi)))
   go_ret
   exact ⟨by first | rfl | (simp [eN9, eS9] <;> rfl) | (simp [*, eN9, eS9] <;> rfl), by repeat (first | (with_reducible first | exact HB.out | apply bA9 | apply bN9 | apply bD9 | refine bS9 ?_ GE116.out | refine bS9 ?_ GE124.out) | exact HB.out)⟩
end Go.Proofs.YthppjdmkinbccaaGreatDoor.Print
