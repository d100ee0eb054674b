/- Part 7 of the proof. -/
import Derived.Test.YtheciiemknmnoaaProg
import Derived.Laws.Tables
import Derived.Orders
import Derived.Below
import Derived.Deep.Draws
import Derived.Deep.AppendLies
import Derived.Maps.AppendAt
import Derived.OwnWalk
import Derived.Laws.BytesArg
import Derived.Laws.MakeOwn
import Derived.Laws.OwnMore
import Derived.Deep.OwnRows
import Derived.Tactics
import Derived.Lib.ConvBytes
import Derived.Laws.Slices
import Derived.WalkKit
import Derived.KernelRfl
import Derived.RowKit3
import Derived.Deep.LoopGhost
import Derived.Deep.QuietTactic
import Derived.BigQuiet
import Derived.WideLaws
import Derived.Deep.DeepCutAuto
import Derived.Deep.CutBlock
import Derived.Deep.RegionHeld3
import Derived.Laws.Rows
import Derived.Lib.AppendStr
import Derived.ArgAppend
import Derived.Laws.IdiomCopy
import Derived.RowKit
import Derived.OrdersHeld
import Derived.Laws.BitsLemmas
import Derived.Laws.Cells
import Derived.Great.BuildSlice
import Derived.Deep.Slices
import Derived.Laws.AppendOwn
import Derived.Laws.LoneSync
import Derived.LoopN
import Derived.Laws.StructEq
import Derived.Laws.Bits64b
import Derived.Laws.BitsAllLaws
import Derived.Test.YtheciiemknmnoaaRows
import Derived.ProofKit
import Derived.OpenShut
import Derived.ShutString
import Derived.ChangeOld
import Derived.ChangeSame
import Derived.Lib.SmallJoins
import Derived.SizedLaws
import Derived.Test.YtheciiemknmnoaaV6
set_option linter.unusedVariables false
set_option linter.unusedSimpArgs false
section
namespace Go.Proofs.Ytheciiemknmnoaa.Num
open Go.ChangeShapes Go.WideShapes Go.ChangeAt Go.RowKit Go.Proofs.YtheciiemknmnoaaW.PrintWords Go.Proofs.YtheciiemknmnoaaW.PrintMore
set_option linter.unusedVariables false
def IsRow (k : IntKind) (w : World) (a : Option Addr) (len cap : Nat) (zs : List Int) : Prop :=
  (a = none ∧ len = 0 ∧ cap = 0 ∧ zs = []) ∨
  ∃ x, a = some x ∧ len ≤ cap ∧ cap ≤ maxLen ∧ zs.length = cap ∧ (∀ i, i < zs.length → w.cell? (x.add i) = some (.int k (zs.getD i 0))) ∧ ∀ n ∈ zs, (Lit.int k n).wf = true
theorem cells27 : Try.prog.cellsOf 27 = 3 := by kernel_rfl
theorem cells25 : Try.prog.cellsOf 25 = 2 := by kernel_rfl
theorem cells23 : Try.prog.cellsOf 23 = 1 := by kernel_rfl
theorem cells4 : Try.prog.cellsOf 4 = 1 := by kernel_rfl
structure Row (W : World) (v : Value) (l : List Int) : Prop where
  out : ∃ A c, v = .slice A l.length c ∧ l.length ≤ c ∧ Kd.C (Kd.int .u32) W A l.length l
  limbs : Limbs l
  len : l.length < 9223372036854775808
theorem row_of {H : Type} {enc : TypeId × Value → H} {W : World} {base : Nat} {held : Bool} {n : Nat} {c : Value} {y : DataW H × List MemPlace} (h : DataW.trod enc Try.prog W base (fun _ => true) held n 23 [c] = some y) :
    ∃ l, Row W c l := by
  have key : ∃ a len cap zs, c = .slice a len cap ∧ IsRow .u32 W a len cap zs := by
    rcases open_ints Try.underlying23 Try.underlying44 (by kernel_rfl) h with ⟨hcs, _⟩ | ⟨x, l, c, zs, hcs, _, hl, hm, hz, _, hcell, hwz⟩
    · simp at hcs
      exact ⟨none, 0, 0, [], hcs, .inl ⟨rfl, rfl, rfl, rfl⟩⟩
    · simp at hcs
      exact ⟨some x, l, c, zs, hcs, .inr ⟨_, rfl, hl, hm, by simpa using hz, hcell, hwz⟩⟩
  obtain ⟨a, len, cap, zs, rfl, hrow⟩ := key
  have hw : ∀ w0 : (a = none ∧ len = 0 ∧ cap = 0 ∧ zs = []) ∨ ∃ x, a = some x ∧ len ≤ cap ∧ cap ≤ maxLen ∧ zs.length = cap ∧ (∀ i, i < zs.length → W.cell? (x.add i) = some (.int .u32 (zs.getD i 0))) ∧ ∀ n ∈ zs, (Lit.int .u32 n).wf = true, ∃ l, Row W (.slice a len cap) l := by
    intro w0
    obtain ⟨l0, rfl, hr0, hm0, hw0, hc0⟩ := ReadsInt.ofRowC w0
    unfold maxLen at hm0
    refine ⟨l0, ⟨a, cap, rfl, hc0, Kd.C_of_reads (d := (0 : Int)) (h1 := fun _ => rfl) hr0⟩, fun x hx => ?_, by omega⟩
    have := hw0 x hx
    have h2 : (decide (IntKind.u32.min ≤ x) && decide (x ≤ IntKind.u32.max)) = true := this
    rw [Bool.and_eq_true, decide_eq_true_eq, decide_eq_true_eq] at h2
    have ea : IntKind.u32.min = 0 := by decide
    have eb : IntKind.u32.max = 4294967295 := by decide
    omega
  exact hw hrow
set_option maxRecDepth 100000 in
theorem open_rat {H : Type} {enc : TypeId × Value → H} {W : World} {base b0 : Nat} {held : Bool} {r : Reach} {v : Value} {d : DataW H} {p : List MemPlace} (hv : Value.okWide Try.prog W r b0 27 v) (h : DataW.Trod enc Try.prog W base (fun _ => true) held 27 v d p) :
    ∃ (neg : Bool) (v1 v2 : Value) (l1 l2 : List Int), v = .agg #[.bool neg, v1, v2] ∧ Row W v1 l1 ∧ Row W v2 l2 := by
  obtain ⟨cs, rfl, hsz⟩ := okWide_struct Try.underlying27 hv
  obtain ⟨c0, c1, c2, rfl⟩ := Joins.array3 (hsz.trans cells27)
  obtain ⟨fuel, hf⟩ := h
  obtain ⟨y0, y1, n, _, _, h0, h1⟩ := trod_struct2 Try.underlying27 hf
  simp only [Value.cells, cells25, cells23, List.drop_zero] at h0 h1
  obtain ⟨z0, z1, m, _, _, g0, g1⟩ := trod_struct2 Try.underlying25 h0
  simp only [cells4, cells23, List.drop_zero] at g0 g1
  obtain ⟨l1, r1⟩ := row_of (c := c1) (by simpa using g1)
  obtain ⟨l2, r2⟩ := row_of (c := c2) (by simpa using h1)
  obtain ⟨b, e, _⟩ := DataW.trod_bool Try.underlying4 g0
  simp at e
  subst e
  exact ⟨b, c1, c2, l1, l2, rfl, r1, r2⟩
theorem rep_nat {W : World} {A : Option Addr} {c : Nat} {l : List Int} (h1 : l.length ≤ c) (h2 : Kd.C (Kd.int .u32) W A l.length l) : Rd.Rep (fun k => k < W.heap.size) W Rd.noM (.l l) (.slice A l.length c) :=
  ⟨A, c, rfl, h1, Kd.C_F (Kd.heap_int _) h2⟩
theorem rep_rat {W : World} {A B : Option Addr} {c d : Nat} {l m : List Int} (n : Bool) (h1 : l.length ≤ c) (h2 : Kd.C (Kd.int .u32) W A l.length l) (h3 : m.length ≤ d) (h4 : Kd.C (Kd.int .u32) W B m.length m) :
    Rd.Rep (fun k => k < W.heap.size) W Rd.noM (.agg [.v (.bool n), .l l, .l m]) (.agg #[.bool n, .slice A l.length c, .slice B m.length d]) :=
  ⟨[.bool n, .slice A l.length c, .slice B m.length d], rfl, ⟨rfl, rep_nat h1 h2, rep_nat h3 h4, trivial⟩, by
    intro v hv
    simp only [List.mem_cons, List.not_mem_nil, or_false] at hv
    rcases hv with rfl | rfl | rfl <;> rfl⟩
end Go.Proofs.Ytheciiemknmnoaa.Num
end
section
namespace Go.Proofs.Ytheciiemknmnoaa.valueSums
open Go.ChangeShapes Go.WideShapes Go.ChangeAt Go.RowKit Go.Proofs.YtheciiemknmnoaaW.PrintWords Go.Proofs.YtheciiemknmnoaaW.PrintMore Go.Proofs.Ytheciiemknmnoaa.Num
set_option linter.unusedVariables false
theorem own : ownKnob Try.prog.godebug = none := by kernel_rfl
theorem laidOut : laidOutB Try.prog = true := by kernel_rfl
theorem in_u8 {n : Int} (h : (Lit.int .u8 n).wf = true) : 0 ≤ n ∧ n ≤ 255 := by
  have h2 : (decide (IntKind.u8.min ≤ n) && decide (n ≤ IntKind.u8.max)) = true := h
  rw [Bool.and_eq_true, decide_eq_true_eq, decide_eq_true_eq] at h2
  have ea : IntKind.u8.min = 0 := by decide
  have eb : IntKind.u8.max = 255 := by decide
  omega
set_option maxRecDepth 100000 in
theorem lifted (os : Os) (started : os.Started) (H : Type) (enc : TypeId × Value → H) :
    ReturnsInHanded {} Try.checked os 3 .any (Rows.valueSumsSpec.pre6 enc Try.prog Try.f3 Rows.valueSumsRow.domain false) (Rows.valueSumsSpec.post enc Try.prog Try.f3 false true false false) := by
  refine returnsInHanded_of_change_sized (C := Try.checked) own started (by kernel_rfl) Try.func3
    (ChangeSpec.witness6 (enc := enc) (C := Try.checked) false ⟨#[], #[.agg #[.bool false, .slice none 0 0, .slice none 0 0], .agg #[.bool false, .slice none 0 0, .slice none 0 0], .int .u8 0], []⟩ 8 (by kernel_rfl) (by kernel_rfl) (by kernel_rfl) (by kernel_rfl)) ?_
  intro W base args ds gs before hval0 hW hcnd hsz0 _
  have hval : ∀ (j : Nat) t v, Try.f3.params[j]? = some t → args[j]? = some v → Value.okWide Try.prog W .any base t v := hval0
  have hW' := hW
  obtain ⟨p, q, hA0, hV, rfl, hfz, hnd⟩ := hW
  have hA : DataW.TrodAll enc Try.prog W 0 (fun _ => true) true Try.f3.params.toList args.toList ds p := hA0
  rw [Try.params3] at hA hval
  obtain ⟨v0, vs0, d0, ds0, p0, q0, hargs, rfl, rfl, h0, r0⟩ := trodAll_cons hA
  obtain ⟨v1, vs1, d1, ds1, p1, q1, rfl, rfl, rfl, h1, r1⟩ := trodAll_cons r0
  obtain ⟨v2, vs2, d2, ds2, p2, q2, rfl, rfl, rfl, h2, r2⟩ := trodAll_cons r1
  obtain ⟨rfl, rfl, rfl⟩ := trodAll_nil r2
  obtain rfl : args = #[v0, v1, v2] := by cases args; simp_all
  obtain ⟨rfl, rfl⟩ := trodVars_none hV
  have k0 := h0
  have lt0 : ∀ x ∈ p0, x.block < W.heap.size := by obtain ⟨m, hm⟩ := k0; exact DataW.trod_lt m _ _ _ hm
  have k1 := h1
  have lt1 : ∀ x ∈ p1, x.block < W.heap.size := by obtain ⟨m, hm⟩ := k1; exact DataW.trod_lt m _ _ _ hm
  obtain ⟨n0, y0, z0, l0, m0, rfl, s0, t0⟩ := open_rat (hval 0 27 v0 rfl rfl) h0
  obtain ⟨A0, c0, rfl, hc0, hr0⟩ := s0.out
  obtain ⟨B0, e0, rfl, he0, hs0⟩ := t0.out
  obtain ⟨n1, y1, z1, l1, m1, rfl, s1, t1⟩ := open_rat (hval 1 27 v1 rfl rfl) h1
  obtain ⟨A1, c1, rfl, hc1, hr1⟩ := s1.out
  obtain ⟨B1, e1, rfl, he1, hs1⟩ := t1.out
  obtain ⟨a2, rfl, rfl, rfl, w2⟩ := open_int Try.underlying5 (hval 2 5 v2 rfl rfl) h2
  clear hA0 hval0 hsz0
  have hrep : Rd.Reps (fun k => k < W.heap.size) W Rd.noM [.agg [.v (.bool n0), .l l0, .l m0], .agg [.v (.bool n1), .l l1, .l m1], .v (.int .u8 a2)] [.agg #[.bool n0, .slice A0 l0.length c0, .slice B0 m0.length e0], .agg #[.bool n1, .slice A1 l1.length c1, .slice B1 m1.length e1], .int .u8 a2] := ⟨rep_rat n0 hc0 hr0 he0 hs0, rep_rat n1 hc1 hr1 he1 hs1, rfl, trivial⟩
  refine ((Rd.sums_ok _ _ ⟨(n0, l0, m0), (n1, l1, m1), a2, ⟨s0.limbs, t0.limbs, s0.len, t0.len⟩, ⟨s1.limbs, t1.limbs, s1.len, t1.len⟩, (in_u8 w2).1, (in_u8 w2).2, rfl, rfl⟩).2 W _ _ hrep).mono fun e W' ⟨v, he, hv, bel⟩ => ?_
  obtain rfl := hv
  subst he
  exact ⟨_, rfl, _, _, _, [], _, [], hW', trodAll_mk1 (shut_bool Try.underlying4 _), (trodAll_cons_mk (Below.trod laidOut (by kernel_rfl) (of_decide_eq_true (by kernel_rfl)) k0 bel lt0) (trodAll_cons_mk (Below.trod laidOut (by kernel_rfl) (of_decide_eq_true (by kernel_rfl)) k1 bel lt1) (trodAll_cons_mk (shut_int Try.underlying5 w2) (trodAll_mk0)))), rfl, bel.frame _, fun h => by cases h⟩
theorem over : Rows.valueSumsRow.holds Try.pinned (OpenSpec.ofChange Rows.valueSumsSpec) :=
  OpenClaim.holds_of_wide 3 Try.f3 rfl rfl rfl rfl rfl rfl rfl ⟨rfl, rfl, rfl, rfl, rfl⟩ rfl rfl rfl rfl rfl (by kernel_rfl) Try.func3 (by kernel_rfl)
    (of_decide_eq_true (by kernel_rfl)) (by unfold Func.isWrapper; first | (rw [if_pos (by decide +kernel)]; kernel_rfl) | (rw [if_neg (by decide +kernel)]; exact ⟨rfl, rfl⟩))
    (fun os started H enc _ => lifted os started H enc)
theorem proved : Rows.ValueSumsSaid := over
end Go.Proofs.Ytheciiemknmnoaa.valueSums
end
