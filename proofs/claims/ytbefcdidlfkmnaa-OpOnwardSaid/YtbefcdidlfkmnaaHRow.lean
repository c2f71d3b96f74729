/- The rows of chapter 11 whose input has a node: how a node that came in is read; no condition beyond those written. -/
import Derived.Test.YtbefcdidlfkmnaaK0
import Derived.Lib.SmallJoins
import Derived.ProofKit
import Derived.OpenShut
import Derived.ShutString
import Derived.ChangeOld
import Derived.SizedLaws
import Derived.Test.YtbefcdidlfkmnaaWSized
namespace Go.Proofs.Ytbefcdidlfkmnaa.Print
open Go.ChangeShapes Go.WideShapes Go.ChangeAt Go.RowKit Go.Proofs.YtbefcdidlfkmnaaW.PrintWords
set_option linter.unusedVariables false
def IsRow (k : IntKind) (w : World) (a : Option Addr) (len cap : Nat) (zs : List Int) : Prop :=
  (a = none ∧ len = 0 ∧ cap = 0 ∧ zs = []) ∨
  ∃ x, a = some x ∧ len ≤ cap ∧ cap ≤ maxLen ∧ zs.length = cap ∧ (∀ i, i < zs.length → w.cell? (x.add i) = some (.int k (zs.getD i 0))) ∧ ∀ n ∈ zs, (Lit.int k n).wf = true
theorem sized_fields {H : Type} {P : Program} {t : TypeId} {fs : Array Field} {ts : List TypeId} {ds : List (DataW H)} {j : Nat} {parts : List (DataW H)}
    (hsz : (DataW.weightsEach P ts ds).all (· ≤ reachBytes) = true) (ht : ts[j]? = some t) (hd : ds[j]? = some (.agg parts)) (hu : P.underlying t = some (.struct fs)) :
    (DataW.weightsEach P (fs.toList.map (·.type)) parts).all (· ≤ reachBytes) = true := by
  rw [List.all_eq_true] at hsz ⊢
  intro n hn
  refine hsz n (DataW.weights_mem_each ht hd n ?_)
  simp only [DataW.weights, hu]
  exact hn
/-- A list of whole numbers that came in. -/
structure InRow (W : World) (v : Value) (A : Option Addr) (c : Nat) (l : List Int) : Prop where
  eq : v = .slice A l.length c
  cells : Kd.C (Kd.int .i64) W A l.length l
  cap : l.length ≤ c
  max : l.length ≤ maxLen
  size : l.length * 8 ≤ 140737488351232
  wf : ∀ x ∈ l, (Lit.int .i64 x).wf = true
section
variable {H : Type} {enc : TypeId × Value → H} {W : World}
theorem open_row {v : Value} {d : DataW H} {p : List MemPlace} {ts : List TypeId} {ds : List (DataW H)} {j : Nat} (hsz : (DataW.weightsEach Try.prog ts ds).all (· ≤ reachBytes) = true) (ht : ts[j]? = some 23) (hd : ds[j]? = some d)
    (hv : ∃ A len cap, v = .slice A len cap) (h : DataW.Trod enc Try.prog W 0 (fun _ => true) true 23 v d p) : ∃ A c l, InRow W v A c l := by
  obtain ⟨a0, len0, cap0, rfl⟩ := hv
  obtain ⟨z0, w0⟩ : ∃ zs, IsRow .i64 W a0 len0 cap0 zs := by
    obtain ⟨fuel, hf⟩ := h
    rcases open_ints Try.underlying23 Try.underlying3 (by kernel_rfl) hf with ⟨hcs, _⟩ | ⟨x, l, c, zs, hcs, _, hl, hm, hz, _, hcell, hwz⟩
    · simp [Value.cells] at hcs
      obtain ⟨rfl, rfl, rfl⟩ := hcs
      exact ⟨[], .inl ⟨rfl, rfl, rfl, rfl⟩⟩
    · simp [Value.cells] at hcs
      obtain ⟨rfl, rfl, rfl⟩ := hcs
      exact ⟨zs, .inr ⟨_, rfl, hl, hm, by simpa using hz, hcell, hwz⟩⟩
  have y0 : len0 * 8 ≤ 140737488351232 := sized_ints hsz ht hd Try.underlying23 Try.underlying3 (by kernel_rfl) (by kernel_rfl) h
  obtain ⟨l0, rfl, hr0, hm0, hw0, hc0⟩ := ReadsInt.ofRowC w0
  exact ⟨_, _, l0, rfl, Kd.C_of_reads (d := (0 : Int)) (h1 := fun _ => rfl) hr0, hc0, hm0, y0, hw0⟩
/-- A node that came in. -/
theorem open_node {r : Reach} {b0 : Nat} {v : Value} {d : DataW H} {p : List MemPlace} {ts : List TypeId} {ds : List (DataW H)} {j : Nat} (hsz : (DataW.weightsEach Try.prog ts ds).all (· ≤ reachBytes) = true) (ht : ts[j]? = some 25) (hd : ds[j]? = some d)
    (hv : Value.okWide Try.prog W r b0 25 v) (h : DataW.Trod enc Try.prog W 0 (fun _ => true) true 25 v d p) :
    ∃ (o : Int) (v1 v2 : Value) (A1 : Option Addr) (c1 : Nat) (l1 : List Int) (A2 : Option Addr) (c2 : Nat) (l2 : List Int), v = .agg #[.int .i64 o, v1, v2] ∧ (Lit.int .i64 o).wf = true ∧ InRow W v1 A1 c1 l1 ∧ InRow W v2 A2 c2 l2 := by
  obtain ⟨u0, u1, u2, y0, y1, y2, n, rfl, rfl, rfl, h0, h1, h2⟩ := Go.Joins.open_agg3 Try.underlying25 (by kernel_rfl) (by kernel_rfl) hv h
  have hsf := sized_fields hsz ht hd Try.underlying25
  obtain ⟨o, ho, hy0, hwf⟩ := DataW.trod_int Try.underlying22 h0
  obtain ⟨a1, m1, q1, e1⟩ := Go.Joins.slice_form Try.underlying23 h1
  obtain ⟨a2, m2, q2, e2⟩ := Go.Joins.slice_form Try.underlying23 h2
  obtain rfl : u0 = .int .i64 o := by simpa using ho
  obtain rfl : u1 = .slice a1 m1 q1 := by simpa using e1
  obtain rfl : u2 = .slice a2 m2 q2 := by simpa using e2
  obtain ⟨A1, k1, l1, r1⟩ := open_row (enc := enc) (W := W) (v := .slice a1 m1 q1) (d := y1.1) (p := y1.2) hsf (j := 1) rfl rfl ⟨_, _, _, rfl⟩ ⟨n, by simpa [Value.cells] using h1⟩
  obtain ⟨A2, k2, l2, r2⟩ := open_row (enc := enc) (W := W) (v := .slice a2 m2 q2) (d := y2.1) (p := y2.2) hsf (j := 2) rfl rfl ⟨_, _, _, rfl⟩ ⟨n, by simpa [Value.cells] using h2⟩
  exact ⟨o, _, _, A1, k1, l1, A2, k2, l2, rfl, hwf, r1, r2⟩
end
end Go.Proofs.Ytbefcdidlfkmnaa.Print
