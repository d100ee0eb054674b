/- Part 6 of the proof. -/
import Derived.Test.YticngjjdjmadgaaProg
import Derived.Laws.Tables
import Derived.Orders
import Derived.Below
import Derived.Deep.Draws
import Derived.Deep.AppendLies
import Derived.Maps.AppendAt
import Derived.OwnWalk
import Derived.Laws.BytesArg
import Derived.Laws.MakeOwn
import Derived.Laws.OwnMore
import Derived.Deep.OwnRows
import Derived.Tactics
import Derived.Lib.ConvBytes
import Derived.Laws.Slices
import Derived.WalkKit
import Derived.KernelRfl
import Derived.RowKit3
import Derived.Deep.LoopGhost
import Derived.Deep.QuietTactic
import Derived.BigQuiet
import Derived.WideLaws
import Derived.Deep.DeepCutAuto
import Derived.Deep.CutBlock
import Derived.Deep.RegionHeld3
import Derived.Laws.Rows
import Derived.Lib.AppendStr
import Derived.ArgAppend
import Derived.Laws.IdiomCopy
import Derived.RowKit
import Derived.OrdersHeld
import Derived.Laws.BitsLemmas
import Derived.Laws.Cells
import Derived.Great.BuildSlice
import Derived.Laws.CopyRow
import Derived.Laws.StructEq
import Derived.Test.YticngjjdjmadgaaM5
set_option linter.unusedVariables false
set_option linter.unusedSimpArgs false
section
set_option linter.unusedVariables false
set_option linter.unusedSimpArgs false
namespace Go.Proofs.Yticngjjdjmadgaa.PU
open Go Go.RowKit Go.Proofs.YticngjjdjmadgaaW.PrintWords Go.Proofs.YticngjjdjmadgaaW.PrintMore Go.Proofs.Yticngjjdjmadgaa.Den Go.Proofs.Yticngjjdjmadgaa.PL
def steelyardlaw08_wakes.R (us : List U) (u : U) : Prop := ∃ (k : Nat) (r : Bool), us = [] ∧ steelyardlaw08_wakes.f k = some r ∧ u = .v (.bool r)
theorem steelyardlaw08_wakes.I {k : Nat} {r : Bool} (h : steelyardlaw08_wakes.f k = some r) : steelyardlaw08_wakes.R [] (.v (.bool r)) := ⟨_, _, rfl, h, rfl⟩
set_option maxHeartbeats 4000000 in
set_option maxRecDepth 100000 in
theorem steelyardlaw08_wakes.body {D : Dat} {C : Orc} (hD : D = real) (h17 : ∀ us u, power_Of.R us u → C 17 us u) (h18 : ∀ us u, power_Scale.R us u → C 18 us u) (h21 : ∀ us u, steelyardkeep_Rat.R us u → C 21 us u) (h31 : ∀ us u, rat_Whole.R us u → C 31 us u) (h48 : ∀ us u, steelyardlaw07_By.R us u → C 48 us u) {us : List U} {u : U} (hR : steelyardlaw08_wakes.R us u) {Q : Prop} (hQ : body tys D C Try.f15 us u = Q) : Q := by
  obtain ⟨k, r, rfl, h, hu⟩ := hR
  obtain ⟨len, add, sub, mul, rem, neg, conv, max, eq, ne, lt, le, nth, zeros, copy, cpd, bor⟩ := D
  simp only [real, Dat.mk.injEq] at hD
  obtain ⟨elen, eadd, esub, emul, erem, eneg, econv, emax, eeq, ene, elt, ele, enth, ezeros, ecopy, ecpd, ebor⟩ := hD
  have hE := And.intro elen (And.intro eadd (And.intro esub (And.intro emul (And.intro erem (And.intro eneg (And.intro econv (And.intro ebor (And.intro emax (And.intro eeq (And.intro ene (And.intro elt ele)))))))))))
  unfold steelyardlaw08_wakes.f at h <;>
  (repeat' first
    | (simp (maxSteps := 2000000) only [↓reduceIte, Bool.false_eq_true, Bool.not_true, Bool.not_false, reduceCtorEq, b00, b01, b10, b11, n00, n01, n10, n11] at h; done)
    | (simp (maxSteps := 2000000) only [↓reduceIte, Bool.false_eq_true, Bool.not_true, Bool.not_false, Option.bind_some, splice_self, b00, b01, b10, b11, n00, n01, n10, n11] at h)
    | (rw [‹power_Of.f _ _ _ _ _ = some _›] at h; simp only [Option.bind_some] at h)
    | (with_reducible refine power_Of.E h ?_; clear h; rintro _ _ _ _ _ h)
    | (with_reducible refine power_Scale.E h ?_; clear h; rintro _ _ _ _ _ h)
    | (rw [‹steelyardkeep_Rat.f _ _ _ _ _ _ _ = some _›] at h; simp only [Option.bind_some] at h)
    | (with_reducible refine steelyardkeep_Rat.E h ?_; clear h; rintro (_ | _) _ h)
    | (rw [‹rat_Whole.f _ _ = some _›] at h; simp only [Option.bind_some] at h)
    | (with_reducible refine rat_Whole.E h ?_; clear h; rintro _ _ _ _ h)
    | (rw [‹steelyardlaw07_By.f _ _ _ = some _›] at h; simp only [Option.bind_some] at h)
    | (with_reducible refine steelyardlaw07_By.E h ?_; clear h; rintro _ _ _ _ h)
    | (simp (maxSteps := 2000000) only [↓reduceIte, Bool.false_eq_true, Bool.not_true, Bool.not_false, reduceCtorEq, decide_eq_true_eq, bne_iff_ne, ne_eq, beq_iff_eq, Option.bind_some, splice_self, b00, b01, b10, b11, n00, n01, n10, n11] at h)
    | (with_reducible refine iteE h ?_ ?_ <;> clear h <;> intro _ h)
    | (split at h)) <;>
  (injection h with h) <;>
  (try simp only [Prod.mk.injEq] at h) <;>
  (subst h) <;>
  (rw [← hQ]; clear hQ) <;>
  (cbv) <;>
  (repeat first
    | ((with_reducible refine E2 (h17 _ _ (power_Of.I ‹_›)) ?_); cbv)
    | ((with_reducible apply E2); (· with_reducible apply h17; simp only [hE, w64, mxE]; exact power_Of.I ‹_›); cbv)
    | ((with_reducible refine E2 (h17 _ _ (power_Of.J ‹power_Of.f _ _ _ _ _ = some _› ?_)) ?_); (· simp only [hE, w64, mxE]; try rfl); cbv)
    | ((with_reducible refine E2 (h18 _ _ (power_Scale.I ‹_›)) ?_); cbv)
    | ((with_reducible apply E2); (· with_reducible apply h18; simp only [hE, w64, mxE]; exact power_Scale.I ‹_›); cbv)
    | ((with_reducible refine E2 (h18 _ _ (power_Scale.J ‹power_Scale.f _ _ _ _ _ = some _› ?_)) ?_); (· simp only [hE, w64, mxE]; try rfl); cbv)
    | ((with_reducible refine E2 (h21 _ _ (steelyardkeep_Rat.I ‹_›)) ?_); cbv)
    | ((with_reducible apply E2); (· with_reducible apply h21; simp only [hE, w64, mxE]; exact steelyardkeep_Rat.I ‹_›); cbv)
    | ((with_reducible refine E2 (h21 _ _ (steelyardkeep_Rat.J ‹steelyardkeep_Rat.f _ _ _ _ _ _ _ = some _› ?_)) ?_); (· simp only [hE, w64, mxE]; try rfl); cbv)
    | ((with_reducible refine E2 (h31 _ _ (rat_Whole.I ‹_›)) ?_); cbv)
    | ((with_reducible apply E2); (· with_reducible apply h31; simp only [hE, w64, mxE]; exact rat_Whole.I ‹_›); cbv)
    | ((with_reducible refine E2 (h31 _ _ (rat_Whole.J ‹rat_Whole.f _ _ = some _› ?_)) ?_); (· simp only [hE, w64, mxE]; try rfl); cbv)
    | ((with_reducible refine E2 (h48 _ _ (steelyardlaw07_By.I ‹_›)) ?_); cbv)
    | ((with_reducible apply E2); (· with_reducible apply h48; simp only [hE, w64, mxE]; exact steelyardlaw07_By.I ‹_›); cbv)
    | ((with_reducible refine E2 (h48 _ _ (steelyardlaw07_By.J ‹steelyardlaw07_By.f _ _ _ = some _› ?_)) ?_); (· simp only [hE, w64, mxE]; try rfl); cbv)
    | ((with_reducible refine t1 ?_ ?_); (· (simp only [hE, w64, decide_eq_true_eq, decide_eq_false_iff_not]; first | assumption | omega)); intro hb_; (try simp only [hb_]); cbv)
    | ((with_reducible refine t2 ?_ ?_); (· (simp only [hE, w64, decide_eq_true_eq, decide_eq_false_iff_not]; first | assumption | omega)); intro hb_; (try simp only [hb_]); cbv)
    | ((with_reducible refine t3 ?_ ?_); (· (simp only [hE, w64, decide_eq_true_eq, decide_eq_false_iff_not]; first | assumption | omega)); intro hb_; (try simp only [hb_]); cbv)
    | ((with_reducible refine t4 ?_ ?_); (· (simp only [hE, w64, decide_eq_true_eq, decide_eq_false_iff_not]; first | assumption | omega)); intro hb_; (try simp only [hb_]); cbv)
    | (rw [hu]; done)
    | (rw [hu]; simp only [hE, w64]; done)
    | (rw [hu]; simp only [hE, w64]; rfl)
    | (rw [hu]; simp only [hE, w64, Option.some.injEq, U.agg.injEq, U.tup.injEq, U.v.injEq, List.cons.injEq, Value.bool.injEq, and_true, true_and, decide_eq_true_eq, decide_eq_false_iff_not]; first | assumption | omega))
theorem steelyardlaw08_wakes.sound : SoundF Try.prog 15 steelyardlaw08_wakes.R :=
  Den.sound (l := [(17, power_Of.R), (18, power_Scale.R), (21, steelyardkeep_Rat.R), (31, rat_Whole.R), (48, steelyardlaw07_By.R)]) (orc_cons power_Of.sound (orc_cons power_Scale.sound (orc_cons steelyardkeep_Rat.sound (orc_cons rat_Whole.sound (orc_cons steelyardlaw07_By.sound (orc_nil)))))) Try.func15 (by kernel_rfl) (by kernel_rfl) (by decide +kernel) fun _ _ hR => steelyardlaw08_wakes.body rfl (fun _ _ h => (.inl ⟨rfl, h⟩)) (fun _ _ h => (.inr (.inl ⟨rfl, h⟩))) (fun _ _ h => (.inr (.inr (.inl ⟨rfl, h⟩)))) (fun _ _ h => (.inr (.inr (.inr (.inl ⟨rfl, h⟩))))) (fun _ _ h => (.inr (.inr (.inr (.inr (.inl ⟨rfl, h⟩)))))) hR rfl
end Go.Proofs.Yticngjjdjmadgaa.PU
end
section
set_option linter.unusedVariables false
set_option linter.unusedSimpArgs false
namespace Go.Proofs.Yticngjjdjmadgaa.PU
open Go Go.RowKit Go.Proofs.YticngjjdjmadgaaW.PrintWords Go.Proofs.YticngjjdjmadgaaW.PrintMore Go.Proofs.Yticngjjdjmadgaa.Den Go.Proofs.Yticngjjdjmadgaa.PL
def steelyardref08_turned.R (us : List U) (u : U) : Prop := ∃ (k : Nat) (a0_0 : Bool) (l0_1 : List Int) (l0_2 : List Int) (r1 : Bool) (r2 : List Int) (r3 : List Int), us = [.agg [.v (.bool a0_0), .l l0_1, .l l0_2]] ∧ steelyardref08_turned.f k a0_0 l0_1 l0_2 = some (r1, r2, r3) ∧ u = .agg [.v (.bool r1), .l r2, .l r3]
theorem steelyardref08_turned.I {k : Nat} {a0_0 : Bool} {l0_1 : List Int} {l0_2 : List Int} {r1 : Bool} {r2 : List Int} {r3 : List Int} (h : steelyardref08_turned.f k a0_0 l0_1 l0_2 = some (r1, r2, r3)) : steelyardref08_turned.R [.agg [.v (.bool a0_0), .l l0_1, .l l0_2]] (.agg [.v (.bool r1), .l r2, .l r3]) := ⟨_, _, _, _, _, _, _, rfl, h, rfl⟩
theorem steelyardref08_turned.J {k : Nat} {a0_0 : Bool} {l0_1 : List Int} {l0_2 : List Int} {r1 : Bool} {r2 : List Int} {r3 : List Int} (h : steelyardref08_turned.f k a0_0 l0_1 l0_2 = some (r1, r2, r3)) {us : List U} (hus : us = [.agg [.v (.bool a0_0), .l l0_1, .l l0_2]]) : steelyardref08_turned.R us (.agg [.v (.bool r1), .l r2, .l r3]) := ⟨_, _, _, _, _, _, _, hus, h, rfl⟩
theorem steelyardref08_turned.E {β : Type} {k : Nat} {a0_0 : Bool} {l0_1 : List Int} {l0_2 : List Int} {g : Bool × List Int × List Int → Option β} {z : β} {Q : Prop} (h : (steelyardref08_turned.f k a0_0 l0_1 l0_2).bind g = some z) (c : ∀ (r1 : Bool) (r2 : List Int) (r3 : List Int), steelyardref08_turned.f k a0_0 l0_1 l0_2 = some (r1, r2, r3) → g (r1, r2, r3) = some z → Q) : Q := by
  obtain ⟨p, h1, h2⟩ := Option.bind_eq_some_iff.1 h
  exact c p.1 p.2.1 p.2.2 h1 h2
set_option maxHeartbeats 4000000 in
set_option maxRecDepth 100000 in
theorem steelyardref08_turned.body {D : Dat} {C : Orc} (hD : D = real) (h58 : ∀ us u, steelyardref06_Make.R us u → C 58 us u) {us : List U} {u : U} (hR : steelyardref08_turned.R us u) {Q : Prop} (hQ : body tys D C Try.f56 us u = Q) : Q := by
  obtain ⟨k, a0_0, l0_1, l0_2, r1, r2, r3, rfl, h, hu⟩ := hR
  obtain ⟨len, add, sub, mul, rem, neg, conv, max, eq, ne, lt, le, nth, zeros, copy, cpd, bor⟩ := D
  simp only [real, Dat.mk.injEq] at hD
  obtain ⟨elen, eadd, esub, emul, erem, eneg, econv, emax, eeq, ene, elt, ele, enth, ezeros, ecopy, ecpd, ebor⟩ := hD
  have hE := And.intro elen (And.intro eadd (And.intro esub (And.intro emul (And.intro erem (And.intro eneg (And.intro econv (And.intro ebor (And.intro emax (And.intro eeq (And.intro ene (And.intro elt ele)))))))))))
  cases a0_0 <;>
  unfold steelyardref08_turned.f at h <;>
  (repeat' first
    | (simp (maxSteps := 2000000) only [↓reduceIte, Bool.false_eq_true, Bool.not_true, Bool.not_false, reduceCtorEq, b00, b01, b10, b11, n00, n01, n10, n11] at h; done)
    | (simp (maxSteps := 2000000) only [↓reduceIte, Bool.false_eq_true, Bool.not_true, Bool.not_false, Option.bind_some, splice_self, b00, b01, b10, b11, n00, n01, n10, n11] at h)
    | (with_reducible refine steelyardref06_Make.E h ?_; clear h; rintro _ _ _ h)
    | (simp (maxSteps := 2000000) only [↓reduceIte, Bool.false_eq_true, Bool.not_true, Bool.not_false, reduceCtorEq, decide_eq_true_eq, bne_iff_ne, ne_eq, beq_iff_eq, Option.bind_some, splice_self, b00, b01, b10, b11, n00, n01, n10, n11] at h)
    | (with_reducible refine iteE h ?_ ?_ <;> clear h <;> intro _ h)
    | (split at h)) <;>
  (injection h with h) <;>
  (try simp only [Prod.mk.injEq] at h) <;>
  (obtain ⟨rfl, rfl, rfl⟩ := h) <;>
  (rw [← hQ]; clear hQ) <;>
  (cbv) <;>
  (repeat first
    | ((with_reducible refine E2 (h58 _ _ (steelyardref06_Make.I ‹_›)) ?_); cbv)
    | ((with_reducible apply E2); (· with_reducible apply h58; simp only [hE, w64, mxE]; exact steelyardref06_Make.I ‹_›); cbv)
    | ((with_reducible refine E2 (h58 _ _ (steelyardref06_Make.J ‹steelyardref06_Make.f _ _ _ = some _› ?_)) ?_); (· simp only [hE, w64, mxE]; try rfl); cbv)
    | (rw [hu]; done)
    | (rw [hu]; simp only [hE, w64]; done)
    | (rw [hu]; simp only [hE, w64]; rfl)
    | (rw [hu]; simp only [hE, w64, Option.some.injEq, U.agg.injEq, U.tup.injEq, U.v.injEq, List.cons.injEq, Value.bool.injEq, and_true, true_and, decide_eq_true_eq, decide_eq_false_iff_not]; first | assumption | omega))
theorem steelyardref08_turned.sound : SoundF Try.prog 56 steelyardref08_turned.R :=
  Den.sound (l := [(58, steelyardref06_Make.R)]) (orc_cons steelyardref06_Make.sound (orc_nil)) Try.func56 (by kernel_rfl) (by kernel_rfl) (by decide +kernel) fun _ _ hR => steelyardref08_turned.body rfl (fun _ _ h => (.inl ⟨rfl, h⟩)) hR rfl
end Go.Proofs.Yticngjjdjmadgaa.PU
end
section
set_option linter.unusedVariables false
set_option linter.unusedSimpArgs false
namespace Go.Proofs.Yticngjjdjmadgaa.PU
open Go Go.RowKit Go.Proofs.YticngjjdjmadgaaW.PrintWords Go.Proofs.YticngjjdjmadgaaW.PrintMore Go.Proofs.Yticngjjdjmadgaa.Den Go.Proofs.Yticngjjdjmadgaa.PL
def steelyardref08_Of.R (us : List U) (u : U) : Prop := ∃ (k : Nat) (a0_0 : Bool) (l0_1 : List Int) (l0_2 : List Int) (a1 : Int) (r1 : Bool) (r2 : List Int) (r3 : List Int) (r4 : Int), us = [.agg [.v (.bool a0_0), .l l0_1, .l l0_2], .v (.int .i64 a1)] ∧ steelyardref08_Of.f k a0_0 l0_1 l0_2 a1 = some (r1, r2, r3, r4) ∧ u = .agg [.v (.bool r1), .l r2, .l r3, .v (.int .i64 r4)]
theorem steelyardref08_Of.I {k : Nat} {a0_0 : Bool} {l0_1 : List Int} {l0_2 : List Int} {a1 : Int} {r1 : Bool} {r2 : List Int} {r3 : List Int} {r4 : Int} (h : steelyardref08_Of.f k a0_0 l0_1 l0_2 a1 = some (r1, r2, r3, r4)) : steelyardref08_Of.R [.agg [.v (.bool a0_0), .l l0_1, .l l0_2], .v (.int .i64 a1)] (.agg [.v (.bool r1), .l r2, .l r3, .v (.int .i64 r4)]) := ⟨_, _, _, _, _, _, _, _, _, rfl, h, rfl⟩
set_option maxHeartbeats 4000000 in
set_option maxRecDepth 100000 in
theorem steelyardref08_Of.body {D : Dat} {C : Orc} (hD : D = real) (h22 : ∀ us u, steelyardref07_Good.R us u → C 22 us u) (h47 : ∀ us u, steelyardref07_Whole.R us u → C 47 us u) (h54 : ∀ us u, steelyardref07_Limit.R us u → C 54 us u) (h55 : ∀ us u, steelyardref08_wide.R us u → C 55 us u) (h56 : ∀ us u, steelyardref08_turned.R us u → C 56 us u) {us : List U} {u : U} (hR : steelyardref08_Of.R us u) {Q : Prop} (hQ : body tys D C Try.f19 us u = Q) : Q := by
  obtain ⟨k, a0_0, l0_1, l0_2, a1, r1, r2, r3, r4, rfl, h, hu⟩ := hR
  obtain ⟨len, add, sub, mul, rem, neg, conv, max, eq, ne, lt, le, nth, zeros, copy, cpd, bor⟩ := D
  simp only [real, Dat.mk.injEq] at hD
  obtain ⟨elen, eadd, esub, emul, erem, eneg, econv, emax, eeq, ene, elt, ele, enth, ezeros, ecopy, ecpd, ebor⟩ := hD
  have hE := And.intro elen (And.intro eadd (And.intro esub (And.intro emul (And.intro erem (And.intro eneg (And.intro econv (And.intro ebor (And.intro emax (And.intro eeq (And.intro ene (And.intro elt ele)))))))))))
  cases a0_0 <;>
  unfold steelyardref08_Of.f at h <;>
  (repeat' first
    | (simp (maxSteps := 2000000) only [↓reduceIte, Bool.false_eq_true, Bool.not_true, Bool.not_false, reduceCtorEq, b00, b01, b10, b11, n00, n01, n10, n11] at h; done)
    | (simp (maxSteps := 2000000) only [↓reduceIte, Bool.false_eq_true, Bool.not_true, Bool.not_false, Option.bind_some, splice_self, b00, b01, b10, b11, n00, n01, n10, n11] at h)
    | (with_reducible refine steelyardref07_Good.E h ?_; clear h; rintro (_ | _) _ h)
    | (with_reducible refine steelyardref07_Whole.E h ?_; clear h; rintro _ _ _ _ h)
    | (rw [‹steelyardref07_Limit.f _ _ _ = some _›] at h; simp only [Option.bind_some] at h)
    | (with_reducible refine steelyardref07_Limit.E h ?_; clear h; rintro _ _ _ _ _ h)
    | (rw [‹steelyardref08_wide.f _ _ _ _ _ = some _›] at h; simp only [Option.bind_some] at h)
    | (with_reducible refine steelyardref08_wide.E h ?_; clear h; rintro _ _ _ _ h)
    | (with_reducible refine steelyardref08_turned.E h ?_; clear h; rintro _ _ _ _ h)
    | (unfold steelyardref08_Of.j0 at h)
    | (simp (maxSteps := 2000000) only [↓reduceIte, Bool.false_eq_true, Bool.not_true, Bool.not_false, reduceCtorEq, decide_eq_true_eq, bne_iff_ne, ne_eq, beq_iff_eq, Option.bind_some, splice_self, b00, b01, b10, b11, n00, n01, n10, n11] at h)
    | (with_reducible refine iteE h ?_ ?_ <;> clear h <;> intro _ h)
    | (split at h)) <;>
  (injection h with h) <;>
  (try simp only [Prod.mk.injEq] at h) <;>
  (obtain ⟨rfl, rfl, rfl, rfl⟩ := h) <;>
  (rw [← hQ]; clear hQ) <;>
  (cbv) <;>
  (repeat first
    | ((with_reducible refine E2 (h22 _ _ (steelyardref07_Good.I ‹_›)) ?_); cbv)
    | ((with_reducible apply E2); (· with_reducible apply h22; simp only [hE, w64, mxE]; exact steelyardref07_Good.I ‹_›); cbv)
    | ((with_reducible refine E2 (h22 _ _ (steelyardref07_Good.J ‹steelyardref07_Good.f _ _ _ _ = some _› ?_)) ?_); (· simp only [hE, w64, mxE]; try rfl); cbv)
    | ((with_reducible refine E2 (h47 _ _ (steelyardref07_Whole.I ‹_›)) ?_); cbv)
    | ((with_reducible apply E2); (· with_reducible apply h47; simp only [hE, w64, mxE]; exact steelyardref07_Whole.I ‹_›); cbv)
    | ((with_reducible refine E2 (h47 _ _ (steelyardref07_Whole.J ‹steelyardref07_Whole.f _ _ = some _› ?_)) ?_); (· simp only [hE, w64, mxE]; try rfl); cbv)
    | ((with_reducible refine E2 (h54 _ _ (steelyardref07_Limit.I ‹_›)) ?_); cbv)
    | ((with_reducible apply E2); (· with_reducible apply h54; simp only [hE, w64, mxE]; exact steelyardref07_Limit.I ‹_›); cbv)
    | ((with_reducible refine E2 (h54 _ _ (steelyardref07_Limit.J ‹steelyardref07_Limit.f _ _ _ = some _› ?_)) ?_); (· simp only [hE, w64, mxE]; try rfl); cbv)
    | ((with_reducible refine E2 (h55 _ _ (steelyardref08_wide.I ‹_›)) ?_); cbv)
    | ((with_reducible apply E2); (· with_reducible apply h55; simp only [hE, w64, mxE]; exact steelyardref08_wide.I ‹_›); cbv)
    | ((with_reducible refine E2 (h55 _ _ (steelyardref08_wide.J ‹steelyardref08_wide.f _ _ _ _ _ = some _› ?_)) ?_); (· simp only [hE, w64, mxE]; try rfl); cbv)
    | ((with_reducible refine E2 (h56 _ _ (steelyardref08_turned.I ‹_›)) ?_); cbv)
    | ((with_reducible apply E2); (· with_reducible apply h56; simp only [hE, w64, mxE]; exact steelyardref08_turned.I ‹_›); cbv)
    | ((with_reducible refine E2 (h56 _ _ (steelyardref08_turned.J ‹steelyardref08_turned.f _ _ _ _ = some _› ?_)) ?_); (· simp only [hE, w64, mxE]; try rfl); cbv)
    | ((with_reducible refine t1 ?_ ?_); (· (simp only [hE, w64, decide_eq_true_eq, decide_eq_false_iff_not]; first | assumption | omega)); intro hb_; (try simp only [hb_]); cbv)
    | ((with_reducible refine t2 ?_ ?_); (· (simp only [hE, w64, decide_eq_true_eq, decide_eq_false_iff_not]; first | assumption | omega)); intro hb_; (try simp only [hb_]); cbv)
    | ((with_reducible refine t3 ?_ ?_); (· (simp only [hE, w64, decide_eq_true_eq, decide_eq_false_iff_not]; first | assumption | omega)); intro hb_; (try simp only [hb_]); cbv)
    | ((with_reducible refine t4 ?_ ?_); (· (simp only [hE, w64, decide_eq_true_eq, decide_eq_false_iff_not]; first | assumption | omega)); intro hb_; (try simp only [hb_]); cbv)
    | (rw [hu]; done)
    | (rw [hu]; simp only [hE, w64]; done)
    | (rw [hu]; simp only [hE, w64]; rfl)
    | (rw [hu]; simp only [hE, w64, Option.some.injEq, U.agg.injEq, U.tup.injEq, U.v.injEq, List.cons.injEq, Value.bool.injEq, and_true, true_and, decide_eq_true_eq, decide_eq_false_iff_not]; first | assumption | omega))
theorem steelyardref08_Of.sound : SoundF Try.prog 19 steelyardref08_Of.R :=
  Den.sound (l := [(22, steelyardref07_Good.R), (47, steelyardref07_Whole.R), (54, steelyardref07_Limit.R), (55, steelyardref08_wide.R), (56, steelyardref08_turned.R)]) (orc_cons steelyardref07_Good.sound (orc_cons steelyardref07_Whole.sound (orc_cons steelyardref07_Limit.sound (orc_cons steelyardref08_wide.sound (orc_cons steelyardref08_turned.sound (orc_nil)))))) Try.func19 (by kernel_rfl) (by kernel_rfl) (by decide +kernel) fun _ _ hR => steelyardref08_Of.body rfl (fun _ _ h => (.inl ⟨rfl, h⟩)) (fun _ _ h => (.inr (.inl ⟨rfl, h⟩))) (fun _ _ h => (.inr (.inr (.inl ⟨rfl, h⟩)))) (fun _ _ h => (.inr (.inr (.inr (.inl ⟨rfl, h⟩))))) (fun _ _ h => (.inr (.inr (.inr (.inr (.inl ⟨rfl, h⟩)))))) hR rfl
end Go.Proofs.Yticngjjdjmadgaa.PU
end
section
set_option linter.unusedVariables false
set_option linter.unusedSimpArgs false
namespace Go.Proofs.Yticngjjdjmadgaa.PU
open Go Go.RowKit Go.Proofs.YticngjjdjmadgaaW.PrintWords Go.Proofs.YticngjjdjmadgaaW.PrintMore Go.Proofs.Yticngjjdjmadgaa.Den Go.Proofs.Yticngjjdjmadgaa.PL
def steelyardref07_Of.R (us : List U) (u : U) : Prop := ∃ (k : Nat) (a0_0 : Bool) (l0_1 : List Int) (l1 : List Int) (r1 : Bool) (r2 : List Int) (r3 : List Int) (r4 : Int), us = [.agg [.v (.bool a0_0), .l l0_1], .l l1] ∧ steelyardref07_Of.f k a0_0 l0_1 l1 = some (r1, r2, r3, r4) ∧ u = .agg [.v (.bool r1), .l r2, .l r3, .v (.int .i64 r4)]
theorem steelyardref07_Of.I {k : Nat} {a0_0 : Bool} {l0_1 : List Int} {l1 : List Int} {r1 : Bool} {r2 : List Int} {r3 : List Int} {r4 : Int} (h : steelyardref07_Of.f k a0_0 l0_1 l1 = some (r1, r2, r3, r4)) : steelyardref07_Of.R [.agg [.v (.bool a0_0), .l l0_1], .l l1] (.agg [.v (.bool r1), .l r2, .l r3, .v (.int .i64 r4)]) := ⟨_, _, _, _, _, _, _, _, rfl, h, rfl⟩
theorem steelyardref07_Of.J {k : Nat} {a0_0 : Bool} {l0_1 : List Int} {l1 : List Int} {r1 : Bool} {r2 : List Int} {r3 : List Int} {r4 : Int} (h : steelyardref07_Of.f k a0_0 l0_1 l1 = some (r1, r2, r3, r4)) {us : List U} (hus : us = [.agg [.v (.bool a0_0), .l l0_1], .l l1]) : steelyardref07_Of.R us (.agg [.v (.bool r1), .l r2, .l r3, .v (.int .i64 r4)]) := ⟨_, _, _, _, _, _, _, _, hus, h, rfl⟩
theorem steelyardref07_Of.E {β : Type} {k : Nat} {a0_0 : Bool} {l0_1 : List Int} {l1 : List Int} {g : Bool × List Int × List Int × Int → Option β} {z : β} {Q : Prop} (h : (steelyardref07_Of.f k a0_0 l0_1 l1).bind g = some z) (c : ∀ (r1 : Bool) (r2 : List Int) (r3 : List Int) (r4 : Int), steelyardref07_Of.f k a0_0 l0_1 l1 = some (r1, r2, r3, r4) → g (r1, r2, r3, r4) = some z → Q) : Q := by
  obtain ⟨p, h1, h2⟩ := Option.bind_eq_some_iff.1 h
  exact c p.1 p.2.1 p.2.2.1 p.2.2.2 h1 h2
set_option maxHeartbeats 4000000 in
set_option maxRecDepth 100000 in
theorem steelyardref07_Of.body {D : Dat} {C : Orc} (hD : D = real) (h54 : ∀ us u, steelyardref07_Limit.R us u → C 54 us u) (h68 : ∀ us u, steelyardref01_Bits.R us u → C 68 us u) (h69 : ∀ us u, steelyardref07_Wide.R us u → C 69 us u) {us : List U} {u : U} (hR : steelyardref07_Of.R us u) {Q : Prop} (hQ : body tys D C Try.f27 us u = Q) : Q := by
  obtain ⟨k, a0_0, l0_1, l1, r1, r2, r3, r4, rfl, h, hu⟩ := hR
  obtain ⟨len, add, sub, mul, rem, neg, conv, max, eq, ne, lt, le, nth, zeros, copy, cpd, bor⟩ := D
  simp only [real, Dat.mk.injEq] at hD
  obtain ⟨elen, eadd, esub, emul, erem, eneg, econv, emax, eeq, ene, elt, ele, enth, ezeros, ecopy, ecpd, ebor⟩ := hD
  have hE := And.intro elen (And.intro eadd (And.intro esub (And.intro emul (And.intro erem (And.intro eneg (And.intro econv (And.intro ebor (And.intro emax (And.intro eeq (And.intro ene (And.intro elt ele)))))))))))
  cases a0_0 <;>
  unfold steelyardref07_Of.f at h <;>
  (repeat' first
    | (simp (maxSteps := 2000000) only [↓reduceIte, Bool.false_eq_true, Bool.not_true, Bool.not_false, reduceCtorEq, b00, b01, b10, b11, n00, n01, n10, n11] at h; done)
    | (simp (maxSteps := 2000000) only [↓reduceIte, Bool.false_eq_true, Bool.not_true, Bool.not_false, Option.bind_some, splice_self, b00, b01, b10, b11, n00, n01, n10, n11] at h)
    | (with_reducible refine steelyardref07_Limit.E h ?_; clear h; rintro _ _ _ _ _ h)
    | (with_reducible refine steelyardref01_Bits.E h ?_; clear h; rintro _ _ h)
    | (with_reducible refine steelyardref07_Wide.E h ?_; clear h; rintro _ _ _ _ h)
    | (simp (maxSteps := 2000000) only [↓reduceIte, Bool.false_eq_true, Bool.not_true, Bool.not_false, reduceCtorEq, decide_eq_true_eq, bne_iff_ne, ne_eq, beq_iff_eq, Option.bind_some, splice_self, b00, b01, b10, b11, n00, n01, n10, n11] at h)
    | (with_reducible refine iteE h ?_ ?_ <;> clear h <;> intro _ h)
    | (split at h)) <;>
  (injection h with h) <;>
  (try simp only [Prod.mk.injEq] at h) <;>
  (obtain ⟨rfl, rfl, rfl, rfl⟩ := h) <;>
  (rw [← hQ]; clear hQ) <;>
  (cbv) <;>
  (repeat first
    | ((with_reducible refine E2 (h54 _ _ (steelyardref07_Limit.I ‹_›)) ?_); cbv)
    | ((with_reducible apply E2); (· with_reducible apply h54; simp only [hE, w64, mxE]; exact steelyardref07_Limit.I ‹_›); cbv)
    | ((with_reducible refine E2 (h54 _ _ (steelyardref07_Limit.J ‹steelyardref07_Limit.f _ _ _ = some _› ?_)) ?_); (· simp only [hE, w64, mxE]; try rfl); cbv)
    | ((with_reducible refine E2 (h68 _ _ (steelyardref01_Bits.I ‹_›)) ?_); cbv)
    | ((with_reducible apply E2); (· with_reducible apply h68; simp only [hE, w64, mxE]; exact steelyardref01_Bits.I ‹_›); cbv)
    | ((with_reducible refine E2 (h68 _ _ (steelyardref01_Bits.J ‹steelyardref01_Bits.f _ _ = some _› ?_)) ?_); (· simp only [hE, w64, mxE]; try rfl); cbv)
    | ((with_reducible refine E2 (h69 _ _ (steelyardref07_Wide.I ‹_›)) ?_); cbv)
    | ((with_reducible apply E2); (· with_reducible apply h69; simp only [hE, w64, mxE]; exact steelyardref07_Wide.I ‹_›); cbv)
    | ((with_reducible refine E2 (h69 _ _ (steelyardref07_Wide.J ‹steelyardref07_Wide.f _ _ _ _ = some _› ?_)) ?_); (· simp only [hE, w64, mxE]; try rfl); cbv)
    | ((with_reducible refine t1 ?_ ?_); (· (simp only [hE, w64, decide_eq_true_eq, decide_eq_false_iff_not]; first | assumption | omega)); intro hb_; (try simp only [hb_]); cbv)
    | ((with_reducible refine t2 ?_ ?_); (· (simp only [hE, w64, decide_eq_true_eq, decide_eq_false_iff_not]; first | assumption | omega)); intro hb_; (try simp only [hb_]); cbv)
    | ((with_reducible refine t3 ?_ ?_); (· (simp only [hE, w64, decide_eq_true_eq, decide_eq_false_iff_not]; first | assumption | omega)); intro hb_; (try simp only [hb_]); cbv)
    | ((with_reducible refine t4 ?_ ?_); (· (simp only [hE, w64, decide_eq_true_eq, decide_eq_false_iff_not]; first | assumption | omega)); intro hb_; (try simp only [hb_]); cbv)
    | (rw [hu]; done)
    | (rw [hu]; simp only [hE, w64]; done)
    | (rw [hu]; simp only [hE, w64]; rfl)
    | (rw [hu]; simp only [hE, w64, Option.some.injEq, U.agg.injEq, U.tup.injEq, U.v.injEq, List.cons.injEq, Value.bool.injEq, and_true, true_and, decide_eq_true_eq, decide_eq_false_iff_not]; first | assumption | omega))
theorem steelyardref07_Of.sound : SoundF Try.prog 27 steelyardref07_Of.R :=
  Den.sound (l := [(54, steelyardref07_Limit.R), (68, steelyardref01_Bits.R), (69, steelyardref07_Wide.R)]) (orc_cons steelyardref07_Limit.sound (orc_cons steelyardref01_Bits.sound (orc_cons steelyardref07_Wide.sound (orc_nil)))) Try.func27 (by kernel_rfl) (by kernel_rfl) (by decide +kernel) fun _ _ hR => steelyardref07_Of.body rfl (fun _ _ h => (.inl ⟨rfl, h⟩)) (fun _ _ h => (.inr (.inl ⟨rfl, h⟩))) (fun _ _ h => (.inr (.inr (.inl ⟨rfl, h⟩)))) hR rfl
end Go.Proofs.Yticngjjdjmadgaa.PU
end
section
set_option linter.unusedVariables false
set_option linter.unusedSimpArgs false
namespace Go.Proofs.Yticngjjdjmadgaa.PU
open Go Go.RowKit Go.Proofs.YticngjjdjmadgaaW.PrintWords Go.Proofs.YticngjjdjmadgaaW.PrintMore Go.Proofs.Yticngjjdjmadgaa.Den Go.Proofs.Yticngjjdjmadgaa.PL
def steelyardref08_Scale.R (us : List U) (u : U) : Prop := ∃ (k : Nat) (a0_0 : Bool) (l0_1 : List Int) (l0_2 : List Int) (a1 : Int) (r1 : Bool) (r2 : List Int) (r3 : List Int) (r4 : Int), us = [.agg [.v (.bool a0_0), .l l0_1, .l l0_2], .v (.int .i64 a1)] ∧ steelyardref08_Scale.f k a0_0 l0_1 l0_2 a1 = some (r1, r2, r3, r4) ∧ u = .agg [.v (.bool r1), .l r2, .l r3, .v (.int .i64 r4)]
theorem steelyardref08_Scale.I {k : Nat} {a0_0 : Bool} {l0_1 : List Int} {l0_2 : List Int} {a1 : Int} {r1 : Bool} {r2 : List Int} {r3 : List Int} {r4 : Int} (h : steelyardref08_Scale.f k a0_0 l0_1 l0_2 a1 = some (r1, r2, r3, r4)) : steelyardref08_Scale.R [.agg [.v (.bool a0_0), .l l0_1, .l l0_2], .v (.int .i64 a1)] (.agg [.v (.bool r1), .l r2, .l r3, .v (.int .i64 r4)]) := ⟨_, _, _, _, _, _, _, _, _, rfl, h, rfl⟩
set_option maxHeartbeats 4000000 in
set_option maxRecDepth 100000 in
theorem steelyardref08_Scale.body {D : Dat} {C : Orc} (hD : D = real) (h22 : ∀ us u, steelyardref07_Good.R us u → C 22 us u) (h27 : ∀ us u, steelyardref07_Of.R us u → C 27 us u) (h33 : ∀ us u, steelyardref02_Of.R us u → C 33 us u) (h57 : ∀ us u, steelyardref06_Mul.R us u → C 57 us u) (h58 : ∀ us u, steelyardref06_Make.R us u → C 58 us u) (h59 : ∀ us u, steelyardref05_Ten.R us u → C 59 us u) {us : List U} {u : U} (hR : steelyardref08_Scale.R us u) {Q : Prop} (hQ : body tys D C Try.f20 us u = Q) : Q := by
  obtain ⟨k, a0_0, l0_1, l0_2, a1, r1, r2, r3, r4, rfl, h, hu⟩ := hR
  obtain ⟨len, add, sub, mul, rem, neg, conv, max, eq, ne, lt, le, nth, zeros, copy, cpd, bor⟩ := D
  simp only [real, Dat.mk.injEq] at hD
  obtain ⟨elen, eadd, esub, emul, erem, eneg, econv, emax, eeq, ene, elt, ele, enth, ezeros, ecopy, ecpd, ebor⟩ := hD
  have hE := And.intro elen (And.intro eadd (And.intro esub (And.intro emul (And.intro erem (And.intro eneg (And.intro econv (And.intro ebor (And.intro emax (And.intro eeq (And.intro ene (And.intro elt ele)))))))))))
  cases a0_0 <;>
  unfold steelyardref08_Scale.f at h <;>
  (repeat' first
    | (simp (maxSteps := 2000000) only [↓reduceIte, Bool.false_eq_true, Bool.not_true, Bool.not_false, reduceCtorEq, b00, b01, b10, b11, n00, n01, n10, n11] at h; done)
    | (simp (maxSteps := 2000000) only [↓reduceIte, Bool.false_eq_true, Bool.not_true, Bool.not_false, Option.bind_some, splice_self, b00, b01, b10, b11, n00, n01, n10, n11] at h)
    | (with_reducible refine steelyardref07_Good.E h ?_; clear h; rintro (_ | _) _ h)
    | (rw [‹steelyardref07_Of.f _ _ _ _ = some _›] at h; simp only [Option.bind_some] at h)
    | (with_reducible refine steelyardref07_Of.E h ?_; clear h; rintro _ _ _ _ _ h)
    | (with_reducible refine steelyardref02_Of.E h ?_; clear h; rintro _ _ h)
    | (with_reducible refine steelyardref06_Mul.E h ?_; clear h; rintro _ _ _ h)
    | (with_reducible refine steelyardref06_Make.E h ?_; clear h; rintro _ _ _ h)
    | (rw [‹steelyardref05_Ten.f _ _ = some _›] at h; simp only [Option.bind_some] at h)
    | (with_reducible refine steelyardref05_Ten.E h ?_; clear h; rintro _ _ h)
    | (unfold steelyardref08_Scale.j0 at h)
    | (simp (maxSteps := 2000000) only [↓reduceIte, Bool.false_eq_true, Bool.not_true, Bool.not_false, reduceCtorEq, decide_eq_true_eq, bne_iff_ne, ne_eq, beq_iff_eq, Option.bind_some, splice_self, b00, b01, b10, b11, n00, n01, n10, n11] at h)
    | (with_reducible refine iteE h ?_ ?_ <;> clear h <;> intro _ h)
    | (split at h)) <;>
  (injection h with h) <;>
  (try simp only [Prod.mk.injEq] at h) <;>
  (obtain ⟨rfl, rfl, rfl, rfl⟩ := h) <;>
  (rw [← hQ]; clear hQ) <;>
  (cbv) <;>
  (repeat first
    | ((with_reducible refine E2 (h22 _ _ (steelyardref07_Good.I ‹_›)) ?_); cbv)
    | ((with_reducible apply E2); (· with_reducible apply h22; simp only [hE, w64, mxE]; exact steelyardref07_Good.I ‹_›); cbv)
    | ((with_reducible refine E2 (h22 _ _ (steelyardref07_Good.J ‹steelyardref07_Good.f _ _ _ _ = some _› ?_)) ?_); (· simp only [hE, w64, mxE]; try rfl); cbv)
    | ((with_reducible refine E2 (h27 _ _ (steelyardref07_Of.I ‹_›)) ?_); cbv)
    | ((with_reducible apply E2); (· with_reducible apply h27; simp only [hE, w64, mxE]; exact steelyardref07_Of.I ‹_›); cbv)
    | ((with_reducible refine E2 (h27 _ _ (steelyardref07_Of.J ‹steelyardref07_Of.f _ _ _ _ = some _› ?_)) ?_); (· simp only [hE, w64, mxE]; try rfl); cbv)
    | ((with_reducible refine E2 (h33 _ _ (steelyardref02_Of.I ‹_›)) ?_); cbv)
    | ((with_reducible apply E2); (· with_reducible apply h33; simp only [hE, w64, mxE]; exact steelyardref02_Of.I ‹_›); cbv)
    | ((with_reducible refine E2 (h33 _ _ (steelyardref02_Of.J ‹steelyardref02_Of.f _ _ _ = some _› ?_)) ?_); (· simp only [hE, w64, mxE]; try rfl); cbv)
    | ((with_reducible refine E2 (h57 _ _ (steelyardref06_Mul.I ‹_›)) ?_); cbv)
    | ((with_reducible apply E2); (· with_reducible apply h57; simp only [hE, w64, mxE]; exact steelyardref06_Mul.I ‹_›); cbv)
    | ((with_reducible refine E2 (h57 _ _ (steelyardref06_Mul.J ‹steelyardref06_Mul.f _ _ _ _ _ = some _› ?_)) ?_); (· simp only [hE, w64, mxE]; try rfl); cbv)
    | ((with_reducible refine E2 (h58 _ _ (steelyardref06_Make.I ‹_›)) ?_); cbv)
    | ((with_reducible apply E2); (· with_reducible apply h58; simp only [hE, w64, mxE]; exact steelyardref06_Make.I ‹_›); cbv)
    | ((with_reducible refine E2 (h58 _ _ (steelyardref06_Make.J ‹steelyardref06_Make.f _ _ _ = some _› ?_)) ?_); (· simp only [hE, w64, mxE]; try rfl); cbv)
    | ((with_reducible refine E2 (h59 _ _ (steelyardref05_Ten.I ‹_›)) ?_); cbv)
    | ((with_reducible apply E2); (· with_reducible apply h59; simp only [hE, w64, mxE]; exact steelyardref05_Ten.I ‹_›); cbv)
    | ((with_reducible refine E2 (h59 _ _ (steelyardref05_Ten.J ‹steelyardref05_Ten.f _ _ = some _› ?_)) ?_); (· simp only [hE, w64, mxE]; try rfl); cbv)
    | ((with_reducible refine t1 ?_ ?_); (· (simp only [hE, w64, decide_eq_true_eq, decide_eq_false_iff_not]; first | assumption | omega)); intro hb_; (try simp only [hb_]); cbv)
    | ((with_reducible refine t2 ?_ ?_); (· (simp only [hE, w64, decide_eq_true_eq, decide_eq_false_iff_not]; first | assumption | omega)); intro hb_; (try simp only [hb_]); cbv)
    | ((with_reducible refine t3 ?_ ?_); (· (simp only [hE, w64, decide_eq_true_eq, decide_eq_false_iff_not]; first | assumption | omega)); intro hb_; (try simp only [hb_]); cbv)
    | ((with_reducible refine t4 ?_ ?_); (· (simp only [hE, w64, decide_eq_true_eq, decide_eq_false_iff_not]; first | assumption | omega)); intro hb_; (try simp only [hb_]); cbv)
    | (rw [hu]; done)
    | (rw [hu]; simp only [hE, w64]; done)
    | (rw [hu]; simp only [hE, w64]; rfl)
    | (rw [hu]; simp only [hE, w64, Option.some.injEq, U.agg.injEq, U.tup.injEq, U.v.injEq, List.cons.injEq, Value.bool.injEq, and_true, true_and, decide_eq_true_eq, decide_eq_false_iff_not]; first | assumption | omega))
theorem steelyardref08_Scale.sound : SoundF Try.prog 20 steelyardref08_Scale.R :=
  Den.sound (l := [(22, steelyardref07_Good.R), (27, steelyardref07_Of.R), (33, steelyardref02_Of.R), (57, steelyardref06_Mul.R), (58, steelyardref06_Make.R), (59, steelyardref05_Ten.R)]) (orc_cons steelyardref07_Good.sound (orc_cons steelyardref07_Of.sound (orc_cons steelyardref02_Of.sound (orc_cons steelyardref06_Mul.sound (orc_cons steelyardref06_Make.sound (orc_cons steelyardref05_Ten.sound (orc_nil))))))) Try.func20 (by kernel_rfl) (by kernel_rfl) (by decide +kernel) fun _ _ hR => steelyardref08_Scale.body rfl (fun _ _ h => (.inl ⟨rfl, h⟩)) (fun _ _ h => (.inr (.inl ⟨rfl, h⟩))) (fun _ _ h => (.inr (.inr (.inl ⟨rfl, h⟩)))) (fun _ _ h => (.inr (.inr (.inr (.inl ⟨rfl, h⟩))))) (fun _ _ h => (.inr (.inr (.inr (.inr (.inl ⟨rfl, h⟩)))))) (fun _ _ h => (.inr (.inr (.inr (.inr (.inr (.inl ⟨rfl, h⟩))))))) hR rfl
end Go.Proofs.Yticngjjdjmadgaa.PU
end
section
set_option linter.unusedVariables false
set_option linter.unusedSimpArgs false
namespace Go.Proofs.Yticngjjdjmadgaa.PU
open Go Go.RowKit Go.Proofs.YticngjjdjmadgaaW.PrintWords Go.Proofs.YticngjjdjmadgaaW.PrintMore Go.Proofs.Yticngjjdjmadgaa.Den Go.Proofs.Yticngjjdjmadgaa.PL
def steelyardkeep_OwnInt.R (us : List U) (u : U) : Prop := ∃ (a0_0 : Bool) (l0_1 : List Int) (r1 : Bool) (r2 : List Int), us = [.agg [.v (.bool a0_0), .l l0_1]] ∧ steelyardkeep_OwnInt.f a0_0 l0_1 = some (r1, r2) ∧ u = .agg [.v (.bool r1), .l r2]
theorem steelyardkeep_OwnInt.I {a0_0 : Bool} {l0_1 : List Int} {r1 : Bool} {r2 : List Int} (h : steelyardkeep_OwnInt.f a0_0 l0_1 = some (r1, r2)) : steelyardkeep_OwnInt.R [.agg [.v (.bool a0_0), .l l0_1]] (.agg [.v (.bool r1), .l r2]) := ⟨_, _, _, _, rfl, h, rfl⟩
theorem steelyardkeep_OwnInt.J {a0_0 : Bool} {l0_1 : List Int} {r1 : Bool} {r2 : List Int} (h : steelyardkeep_OwnInt.f a0_0 l0_1 = some (r1, r2)) {us : List U} (hus : us = [.agg [.v (.bool a0_0), .l l0_1]]) : steelyardkeep_OwnInt.R us (.agg [.v (.bool r1), .l r2]) := ⟨_, _, _, _, hus, h, rfl⟩
theorem steelyardkeep_OwnInt.E {β : Type} {a0_0 : Bool} {l0_1 : List Int} {g : Bool × List Int → Option β} {z : β} {Q : Prop} (h : (steelyardkeep_OwnInt.f a0_0 l0_1).bind g = some z) (c : ∀ (r1 : Bool) (r2 : List Int), steelyardkeep_OwnInt.f a0_0 l0_1 = some (r1, r2) → g (r1, r2) = some z → Q) : Q := by
  obtain ⟨p, h1, h2⟩ := Option.bind_eq_some_iff.1 h
  exact c p.1 p.2 h1 h2
set_option maxHeartbeats 4000000 in
set_option maxRecDepth 100000 in
theorem steelyardkeep_OwnInt.body {D : Dat} {C : Orc} (hD : D = real) (h26 : ∀ us u, steelyardkeep_OwnNat.R us u → C 26 us u) {us : List U} {u : U} (hR : steelyardkeep_OwnInt.R us u) {Q : Prop} (hQ : body tys D C Try.f25 us u = Q) : Q := by
  obtain ⟨a0_0, l0_1, r1, r2, rfl, h, hu⟩ := hR
  obtain ⟨len, add, sub, mul, rem, neg, conv, max, eq, ne, lt, le, nth, zeros, copy, cpd, bor⟩ := D
  simp only [real, Dat.mk.injEq] at hD
  obtain ⟨elen, eadd, esub, emul, erem, eneg, econv, emax, eeq, ene, elt, ele, enth, ezeros, ecopy, ecpd, ebor⟩ := hD
  have hE := And.intro elen (And.intro eadd (And.intro esub (And.intro emul (And.intro erem (And.intro eneg (And.intro econv (And.intro ebor (And.intro emax (And.intro eeq (And.intro ene (And.intro elt ele)))))))))))
  cases a0_0 <;>
  unfold steelyardkeep_OwnInt.f at h <;>
  (repeat' first
    | (simp (maxSteps := 2000000) only [↓reduceIte, Bool.false_eq_true, Bool.not_true, Bool.not_false, reduceCtorEq, b00, b01, b10, b11, n00, n01, n10, n11] at h; done)
    | (simp (maxSteps := 2000000) only [↓reduceIte, Bool.false_eq_true, Bool.not_true, Bool.not_false, Option.bind_some, splice_self, b00, b01, b10, b11, n00, n01, n10, n11] at h)
    | (with_reducible refine steelyardkeep_OwnNat.E h ?_; clear h; rintro _ _ h)
    | (simp (maxSteps := 2000000) only [↓reduceIte, Bool.false_eq_true, Bool.not_true, Bool.not_false, reduceCtorEq, decide_eq_true_eq, bne_iff_ne, ne_eq, beq_iff_eq, Option.bind_some, splice_self, b00, b01, b10, b11, n00, n01, n10, n11] at h)
    | (with_reducible refine iteE h ?_ ?_ <;> clear h <;> intro _ h)
    | (split at h)) <;>
  (injection h with h) <;>
  (try simp only [Prod.mk.injEq] at h) <;>
  (obtain ⟨rfl, rfl⟩ := h) <;>
  (rw [← hQ]; clear hQ) <;>
  (cbv) <;>
  (repeat first
    | ((with_reducible refine E2 (h26 _ _ (steelyardkeep_OwnNat.I ‹_›)) ?_); cbv)
    | ((with_reducible apply E2); (· with_reducible apply h26; simp only [hE, w64, mxE]; exact steelyardkeep_OwnNat.I ‹_›); cbv)
    | ((with_reducible refine E2 (h26 _ _ (steelyardkeep_OwnNat.J ‹steelyardkeep_OwnNat.f _ = some _› ?_)) ?_); (· simp only [hE, w64, mxE]; try rfl); cbv)
    | (rw [hu]; done)
    | (rw [hu]; simp only [hE, w64]; done)
    | (rw [hu]; simp only [hE, w64]; rfl)
    | (rw [hu]; simp only [hE, w64, Option.some.injEq, U.agg.injEq, U.tup.injEq, U.v.injEq, List.cons.injEq, Value.bool.injEq, and_true, true_and, decide_eq_true_eq, decide_eq_false_iff_not]; first | assumption | omega))
theorem steelyardkeep_OwnInt.sound : SoundF Try.prog 25 steelyardkeep_OwnInt.R :=
  Den.sound (l := [(26, steelyardkeep_OwnNat.R)]) (orc_cons steelyardkeep_OwnNat.sound (orc_nil)) Try.func25 (by kernel_rfl) (by kernel_rfl) (by decide +kernel) fun _ _ hR => steelyardkeep_OwnInt.body rfl (fun _ _ h => (.inl ⟨rfl, h⟩)) hR rfl
end Go.Proofs.Yticngjjdjmadgaa.PU
end
section
set_option linter.unusedVariables false
set_option linter.unusedSimpArgs false
namespace Go.Proofs.Yticngjjdjmadgaa.PU
open Go Go.RowKit Go.Proofs.YticngjjdjmadgaaW.PrintWords Go.Proofs.YticngjjdjmadgaaW.PrintMore Go.Proofs.Yticngjjdjmadgaa.Den Go.Proofs.Yticngjjdjmadgaa.PL
def steelyardkeep_OwnRat.R (us : List U) (u : U) : Prop := ∃ (a0_0 : Bool) (l0_1 : List Int) (l0_2 : List Int) (r1 : Bool) (r2 : List Int) (r3 : List Int), us = [.agg [.v (.bool a0_0), .l l0_1, .l l0_2]] ∧ steelyardkeep_OwnRat.f a0_0 l0_1 l0_2 = some (r1, r2, r3) ∧ u = .agg [.v (.bool r1), .l r2, .l r3]
theorem steelyardkeep_OwnRat.I {a0_0 : Bool} {l0_1 : List Int} {l0_2 : List Int} {r1 : Bool} {r2 : List Int} {r3 : List Int} (h : steelyardkeep_OwnRat.f a0_0 l0_1 l0_2 = some (r1, r2, r3)) : steelyardkeep_OwnRat.R [.agg [.v (.bool a0_0), .l l0_1, .l l0_2]] (.agg [.v (.bool r1), .l r2, .l r3]) := ⟨_, _, _, _, _, _, rfl, h, rfl⟩
set_option maxHeartbeats 4000000 in
set_option maxRecDepth 100000 in
theorem steelyardkeep_OwnRat.body {D : Dat} {C : Orc} (hD : D = real) (h25 : ∀ us u, steelyardkeep_OwnInt.R us u → C 25 us u) (h26 : ∀ us u, steelyardkeep_OwnNat.R us u → C 26 us u) {us : List U} {u : U} (hR : steelyardkeep_OwnRat.R us u) {Q : Prop} (hQ : body tys D C Try.f16 us u = Q) : Q := by
  obtain ⟨a0_0, l0_1, l0_2, r1, r2, r3, rfl, h, hu⟩ := hR
  obtain ⟨len, add, sub, mul, rem, neg, conv, max, eq, ne, lt, le, nth, zeros, copy, cpd, bor⟩ := D
  simp only [real, Dat.mk.injEq] at hD
  obtain ⟨elen, eadd, esub, emul, erem, eneg, econv, emax, eeq, ene, elt, ele, enth, ezeros, ecopy, ecpd, ebor⟩ := hD
  have hE := And.intro elen (And.intro eadd (And.intro esub (And.intro emul (And.intro erem (And.intro eneg (And.intro econv (And.intro ebor (And.intro emax (And.intro eeq (And.intro ene (And.intro elt ele)))))))))))
  cases a0_0 <;>
  unfold steelyardkeep_OwnRat.f at h <;>
  (repeat' first
    | (simp (maxSteps := 2000000) only [↓reduceIte, Bool.false_eq_true, Bool.not_true, Bool.not_false, reduceCtorEq, b00, b01, b10, b11, n00, n01, n10, n11] at h; done)
    | (simp (maxSteps := 2000000) only [↓reduceIte, Bool.false_eq_true, Bool.not_true, Bool.not_false, Option.bind_some, splice_self, b00, b01, b10, b11, n00, n01, n10, n11] at h)
    | (with_reducible refine steelyardkeep_OwnInt.E h ?_; clear h; rintro _ _ _ h)
    | (with_reducible refine steelyardkeep_OwnNat.E h ?_; clear h; rintro _ _ h)
    | (simp (maxSteps := 2000000) only [↓reduceIte, Bool.false_eq_true, Bool.not_true, Bool.not_false, reduceCtorEq, decide_eq_true_eq, bne_iff_ne, ne_eq, beq_iff_eq, Option.bind_some, splice_self, b00, b01, b10, b11, n00, n01, n10, n11] at h)
    | (with_reducible refine iteE h ?_ ?_ <;> clear h <;> intro _ h)
    | (split at h)) <;>
  (injection h with h) <;>
  (try simp only [Prod.mk.injEq] at h) <;>
  (obtain ⟨rfl, rfl, rfl⟩ := h) <;>
  (rw [← hQ]; clear hQ) <;>
  (cbv) <;>
  (repeat first
    | ((with_reducible refine E2 (h25 _ _ (steelyardkeep_OwnInt.I ‹_›)) ?_); cbv)
    | ((with_reducible apply E2); (· with_reducible apply h25; simp only [hE, w64, mxE]; exact steelyardkeep_OwnInt.I ‹_›); cbv)
    | ((with_reducible refine E2 (h25 _ _ (steelyardkeep_OwnInt.J ‹steelyardkeep_OwnInt.f _ _ = some _› ?_)) ?_); (· simp only [hE, w64, mxE]; try rfl); cbv)
    | ((with_reducible refine E2 (h26 _ _ (steelyardkeep_OwnNat.I ‹_›)) ?_); cbv)
    | ((with_reducible apply E2); (· with_reducible apply h26; simp only [hE, w64, mxE]; exact steelyardkeep_OwnNat.I ‹_›); cbv)
    | ((with_reducible refine E2 (h26 _ _ (steelyardkeep_OwnNat.J ‹steelyardkeep_OwnNat.f _ = some _› ?_)) ?_); (· simp only [hE, w64, mxE]; try rfl); cbv)
    | (rw [hu]; done)
    | (rw [hu]; simp only [hE, w64]; done)
    | (rw [hu]; simp only [hE, w64]; rfl)
    | (rw [hu]; simp only [hE, w64, Option.some.injEq, U.agg.injEq, U.tup.injEq, U.v.injEq, List.cons.injEq, Value.bool.injEq, and_true, true_and, decide_eq_true_eq, decide_eq_false_iff_not]; first | assumption | omega))
theorem steelyardkeep_OwnRat.sound : SoundF Try.prog 16 steelyardkeep_OwnRat.R :=
  Den.sound (l := [(25, steelyardkeep_OwnInt.R), (26, steelyardkeep_OwnNat.R)]) (orc_cons steelyardkeep_OwnInt.sound (orc_cons steelyardkeep_OwnNat.sound (orc_nil))) Try.func16 (by kernel_rfl) (by kernel_rfl) (by decide +kernel) fun _ _ hR => steelyardkeep_OwnRat.body rfl (fun _ _ h => (.inl ⟨rfl, h⟩)) (fun _ _ h => (.inr (.inl ⟨rfl, h⟩))) hR rfl
end Go.Proofs.Yticngjjdjmadgaa.PU
end
section
set_option linter.unusedVariables false
set_option linter.unusedSimpArgs false
namespace Go.Proofs.Yticngjjdjmadgaa.PU
open Go Go.RowKit Go.Proofs.YticngjjdjmadgaaW.PrintWords Go.Proofs.YticngjjdjmadgaaW.PrintMore Go.Proofs.Yticngjjdjmadgaa.Den Go.Proofs.Yticngjjdjmadgaa.PL
def steelyardlaw07_Long.R (us : List U) (u : U) : Prop := ∃ (a0_0 : Bool) (l0_1 : List Int) (l0_2 : List Int) (r : Bool), us = [.agg [.v (.bool a0_0), .l l0_1, .l l0_2]] ∧ steelyardlaw07_Long.f a0_0 l0_1 l0_2 = some r ∧ u = .v (.bool r)
theorem steelyardlaw07_Long.I {a0_0 : Bool} {l0_1 : List Int} {l0_2 : List Int} {r : Bool} (h : steelyardlaw07_Long.f a0_0 l0_1 l0_2 = some r) : steelyardlaw07_Long.R [.agg [.v (.bool a0_0), .l l0_1, .l l0_2]] (.v (.bool r)) := ⟨_, _, _, _, rfl, h, rfl⟩
set_option maxHeartbeats 4000000 in
set_option maxRecDepth 100000 in
theorem steelyardlaw07_Long.body {D : Dat} {C : Orc} (hD : D = real)  {us : List U} {u : U} (hR : steelyardlaw07_Long.R us u) {Q : Prop} (hQ : body tys D C Try.f14 us u = Q) : Q := by
  obtain ⟨a0_0, l0_1, l0_2, r, rfl, h, hu⟩ := hR
  obtain ⟨len, add, sub, mul, rem, neg, conv, max, eq, ne, lt, le, nth, zeros, copy, cpd, bor⟩ := D
  simp only [real, Dat.mk.injEq] at hD
  obtain ⟨elen, eadd, esub, emul, erem, eneg, econv, emax, eeq, ene, elt, ele, enth, ezeros, ecopy, ecpd, ebor⟩ := hD
  have hE := And.intro elen (And.intro eadd (And.intro esub (And.intro emul (And.intro erem (And.intro eneg (And.intro econv (And.intro ebor (And.intro emax (And.intro eeq (And.intro ene (And.intro elt ele)))))))))))
  cases a0_0 <;>
  unfold steelyardlaw07_Long.f at h <;>
  (repeat' first
    | (simp (maxSteps := 2000000) only [↓reduceIte, Bool.false_eq_true, Bool.not_true, Bool.not_false, reduceCtorEq, b00, b01, b10, b11, n00, n01, n10, n11] at h; done)
    | (simp (maxSteps := 2000000) only [↓reduceIte, Bool.false_eq_true, Bool.not_true, Bool.not_false, Option.bind_some, splice_self, b00, b01, b10, b11, n00, n01, n10, n11] at h)
    | (simp (maxSteps := 2000000) only [↓reduceIte, Bool.false_eq_true, Bool.not_true, Bool.not_false, reduceCtorEq, decide_eq_true_eq, bne_iff_ne, ne_eq, beq_iff_eq, Option.bind_some, splice_self, b00, b01, b10, b11, n00, n01, n10, n11] at h)
    | (with_reducible refine iteE h ?_ ?_ <;> clear h <;> intro _ h)
    | (split at h)) <;>
  (injection h with h) <;>
  (try simp only [Prod.mk.injEq] at h) <;>
  (subst h) <;>
  (rw [← hQ]; clear hQ) <;>
  (cbv) <;>
  (repeat first
    | ((with_reducible refine t1 ?_ ?_); (· (simp only [hE, w64, decide_eq_true_eq, decide_eq_false_iff_not]; first | assumption | omega)); intro hb_; (try simp only [hb_]); cbv)
    | ((with_reducible refine t2 ?_ ?_); (· (simp only [hE, w64, decide_eq_true_eq, decide_eq_false_iff_not]; first | assumption | omega)); intro hb_; (try simp only [hb_]); cbv)
    | ((with_reducible refine t3 ?_ ?_); (· (simp only [hE, w64, decide_eq_true_eq, decide_eq_false_iff_not]; first | assumption | omega)); intro hb_; (try simp only [hb_]); cbv)
    | ((with_reducible refine t4 ?_ ?_); (· (simp only [hE, w64, decide_eq_true_eq, decide_eq_false_iff_not]; first | assumption | omega)); intro hb_; (try simp only [hb_]); cbv)
    | (rw [hu]; done)
    | (rw [hu]; simp only [hE, w64]; done)
    | (rw [hu]; simp only [hE, w64]; rfl)
    | (rw [hu]; simp only [hE, w64, Option.some.injEq, U.agg.injEq, U.tup.injEq, U.v.injEq, List.cons.injEq, Value.bool.injEq, and_true, true_and, decide_eq_true_eq, decide_eq_false_iff_not]; first | assumption | omega))
theorem steelyardlaw07_Long.sound : SoundF Try.prog 14 steelyardlaw07_Long.R :=
  Den.sound (l := []) (orc_nil) Try.func14 (by kernel_rfl) (by kernel_rfl) (by decide +kernel) fun _ _ hR => steelyardlaw07_Long.body rfl  hR rfl
end Go.Proofs.Yticngjjdjmadgaa.PU
end
