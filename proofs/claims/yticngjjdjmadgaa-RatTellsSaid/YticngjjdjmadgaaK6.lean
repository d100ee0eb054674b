/- Part 6 of the proof. -/
import Derived.Test.YticngjjdjmadgaaProg
import Derived.Laws.Tables
import Derived.Orders
import Derived.Below
import Derived.Deep.Draws
import Derived.Deep.AppendLies
import Derived.Maps.AppendAt
import Derived.OwnWalk
import Derived.Laws.BytesArg
import Derived.Laws.MakeOwn
import Derived.Laws.OwnMore
import Derived.Deep.OwnRows
import Derived.Tactics
import Derived.Lib.ConvBytes
import Derived.Laws.Slices
import Derived.WalkKit
import Derived.KernelRfl
import Derived.RowKit3
import Derived.Deep.LoopGhost
import Derived.Deep.QuietTactic
import Derived.BigQuiet
import Derived.WideLaws
import Derived.Deep.DeepCutAuto
import Derived.Deep.CutBlock
import Derived.Deep.RegionHeld3
import Derived.Laws.Rows
import Derived.Lib.AppendStr
import Derived.ArgAppend
import Derived.Laws.IdiomCopy
import Derived.RowKit
import Derived.OrdersHeld
import Derived.Laws.BitsLemmas
import Derived.Laws.Cells
import Derived.Great.BuildSlice
import Derived.Laws.CopyRow
import Derived.Laws.StructEq
import Derived.Test.YticngjjdjmadgaaK5
set_option linter.unusedVariables false
set_option linter.unusedSimpArgs false
section
set_option linter.unusedVariables false
set_option linter.unusedSimpArgs false
namespace Go.Proofs.Yticngjjdjmadgaa.PU
open Go Go.RowKit Go.Proofs.YticngjjdjmadgaaW.PrintWords Go.Proofs.YticngjjdjmadgaaW.PrintMore Go.Proofs.Yticngjjdjmadgaa.Den Go.Proofs.Yticngjjdjmadgaa.PL
def steelyardlaw07_wakes.R (us : List U) (u : U) : Prop := ∃ (k : Nat) (r : Bool), us = [] ∧ steelyardlaw07_wakes.f k = some r ∧ u = .v (.bool r)
theorem steelyardlaw07_wakes.I {k : Nat} {r : Bool} (h : steelyardlaw07_wakes.f k = some r) : steelyardlaw07_wakes.R [] (.v (.bool r)) := ⟨_, _, rfl, h, rfl⟩
set_option maxHeartbeats 4000000 in
set_option maxRecDepth 100000 in
theorem steelyardlaw07_wakes.body {D : Dat} {C : Orc} (hD : D = real) (h21 : ∀ us u, steelyardkeep_Rat.R us u → C 21 us u) (h24 : ∀ us u, rat_Of.R us u → C 24 us u) (h28 : ∀ us u, rat_Good.R us u → C 28 us u) (h29 : ∀ us u, rat_Add.R us u → C 29 us u) (h30 : ∀ us u, rat_Div.R us u → C 30 us u) (h31 : ∀ us u, rat_Whole.R us u → C 31 us u) (h32 : ∀ us u, rat_Cmp.R us u → C 32 us u) (h35 : ∀ us u, rat_Mul.R us u → C 35 us u) (h41 : ∀ us u, rat_Sign.R us u → C 41 us u) (h45 : ∀ us u, rat_Same.R us u → C 45 us u) (h48 : ∀ us u, steelyardlaw07_By.R us u → C 48 us u) {us : List U} {u : U} (hR : steelyardlaw07_wakes.R us u) {Q : Prop} (hQ : body tys D C Try.f23 us u = Q) : Q := by
  obtain ⟨k, r, rfl, h, hu⟩ := hR
  obtain ⟨len, add, sub, mul, rem, neg, conv, max, eq, ne, lt, le, nth, zeros, copy, cpd, bor⟩ := D
  simp only [real, Dat.mk.injEq] at hD
  obtain ⟨elen, eadd, esub, emul, erem, eneg, econv, emax, eeq, ene, elt, ele, enth, ezeros, ecopy, ecpd, ebor⟩ := hD
  have hE := And.intro elen (And.intro eadd (And.intro esub (And.intro emul (And.intro erem (And.intro eneg (And.intro econv (And.intro ebor (And.intro emax (And.intro eeq (And.intro ene (And.intro elt ele)))))))))))
  unfold steelyardlaw07_wakes.f at h <;>
  (repeat' first
    | (simp (maxSteps := 2000000) only [↓reduceIte, Bool.false_eq_true, Bool.not_true, Bool.not_false, reduceCtorEq, b00, b01, b10, b11, n00, n01, n10, n11] at h; done)
    | (simp (maxSteps := 2000000) only [↓reduceIte, Bool.false_eq_true, Bool.not_true, Bool.not_false, Option.bind_some, splice_self, b00, b01, b10, b11, n00, n01, n10, n11] at h)
    | (rw [‹steelyardkeep_Rat.f _ _ _ _ _ _ _ = some _›] at h; simp only [Option.bind_some] at h)
    | (with_reducible refine steelyardkeep_Rat.E h ?_; clear h; rintro (_ | _) _ h)
    | (rw [‹rat_Of.f _ _ _ _ = some _›] at h; simp only [Option.bind_some] at h)
    | (with_reducible refine rat_Of.E h ?_; clear h; rintro _ _ _ _ _ h)
    | (rw [‹rat_Good.f _ _ _ _ = some _›] at h; simp only [Option.bind_some] at h)
    | (with_reducible refine rat_Good.E h ?_; clear h; rintro (_ | _) _ h)
    | (rw [‹rat_Add.f _ _ _ _ _ _ _ = some _›] at h; simp only [Option.bind_some] at h)
    | (with_reducible refine rat_Add.E h ?_; clear h; rintro _ _ _ _ _ h)
    | (with_reducible refine rat_Div.E h ?_; clear h; rintro _ _ _ _ _ h)
    | (with_reducible refine rat_Whole.E h ?_; clear h; rintro _ _ _ _ h)
    | (with_reducible refine rat_Cmp.E h ?_; clear h; rintro _ _ h)
    | (with_reducible refine rat_Mul.E h ?_; clear h; rintro _ _ _ _ _ h)
    | (with_reducible refine rat_Sign.E h ?_; clear h; rintro _ _ h)
    | (with_reducible refine rat_Same.E h ?_; clear h; rintro _ _ h)
    | (rw [‹steelyardlaw07_By.f _ _ _ = some _›] at h; simp only [Option.bind_some] at h)
    | (with_reducible refine steelyardlaw07_By.E h ?_; clear h; rintro _ _ _ _ h)
    | (simp (maxSteps := 2000000) only [↓reduceIte, Bool.false_eq_true, Bool.not_true, Bool.not_false, reduceCtorEq, decide_eq_true_eq, bne_iff_ne, ne_eq, beq_iff_eq, Option.bind_some, splice_self, b00, b01, b10, b11, n00, n01, n10, n11] at h)
    | (with_reducible refine iteE h ?_ ?_ <;> clear h <;> intro _ h)
    | (split at h)) <;>
  (injection h with h) <;>
  (try simp only [Prod.mk.injEq] at h) <;>
  (subst h) <;>
  (rw [← hQ]; clear hQ) <;>
  (cbv) <;>
  (repeat first
    | ((with_reducible refine E2 (h21 _ _ (steelyardkeep_Rat.I ‹_›)) ?_); cbv)
    | ((with_reducible apply E2); (· with_reducible apply h21; simp only [hE, w64, mxE]; exact steelyardkeep_Rat.I ‹_›); cbv)
    | ((with_reducible refine E2 (h21 _ _ (steelyardkeep_Rat.J ‹steelyardkeep_Rat.f _ _ _ _ _ _ _ = some _› ?_)) ?_); (· simp only [hE, w64, mxE]; try rfl); cbv)
    | ((with_reducible refine E2 (h24 _ _ (rat_Of.I ‹_›)) ?_); cbv)
    | ((with_reducible apply E2); (· with_reducible apply h24; simp only [hE, w64, mxE]; exact rat_Of.I ‹_›); cbv)
    | ((with_reducible refine E2 (h24 _ _ (rat_Of.J ‹rat_Of.f _ _ _ _ = some _› ?_)) ?_); (· simp only [hE, w64, mxE]; try rfl); cbv)
    | ((with_reducible refine E2 (h28 _ _ (rat_Good.I ‹_›)) ?_); cbv)
    | ((with_reducible apply E2); (· with_reducible apply h28; simp only [hE, w64, mxE]; exact rat_Good.I ‹_›); cbv)
    | ((with_reducible refine E2 (h28 _ _ (rat_Good.J ‹rat_Good.f _ _ _ _ = some _› ?_)) ?_); (· simp only [hE, w64, mxE]; try rfl); cbv)
    | ((with_reducible refine E2 (h29 _ _ (rat_Add.I ‹_›)) ?_); cbv)
    | ((with_reducible apply E2); (· with_reducible apply h29; simp only [hE, w64, mxE]; exact rat_Add.I ‹_›); cbv)
    | ((with_reducible refine E2 (h29 _ _ (rat_Add.J ‹rat_Add.f _ _ _ _ _ _ _ = some _› ?_)) ?_); (· simp only [hE, w64, mxE]; try rfl); cbv)
    | ((with_reducible refine E2 (h30 _ _ (rat_Div.I ‹_›)) ?_); cbv)
    | ((with_reducible apply E2); (· with_reducible apply h30; simp only [hE, w64, mxE]; exact rat_Div.I ‹_›); cbv)
    | ((with_reducible refine E2 (h30 _ _ (rat_Div.J ‹rat_Div.f _ _ _ _ _ _ _ = some _› ?_)) ?_); (· simp only [hE, w64, mxE]; try rfl); cbv)
    | ((with_reducible refine E2 (h31 _ _ (rat_Whole.I ‹_›)) ?_); cbv)
    | ((with_reducible apply E2); (· with_reducible apply h31; simp only [hE, w64, mxE]; exact rat_Whole.I ‹_›); cbv)
    | ((with_reducible refine E2 (h31 _ _ (rat_Whole.J ‹rat_Whole.f _ _ = some _› ?_)) ?_); (· simp only [hE, w64, mxE]; try rfl); cbv)
    | ((with_reducible refine E2 (h32 _ _ (rat_Cmp.I ‹_›)) ?_); cbv)
    | ((with_reducible apply E2); (· with_reducible apply h32; simp only [hE, w64, mxE]; exact rat_Cmp.I ‹_›); cbv)
    | ((with_reducible refine E2 (h32 _ _ (rat_Cmp.J ‹rat_Cmp.f _ _ _ _ _ _ _ = some _› ?_)) ?_); (· simp only [hE, w64, mxE]; try rfl); cbv)
    | ((with_reducible refine E2 (h35 _ _ (rat_Mul.I ‹_›)) ?_); cbv)
    | ((with_reducible apply E2); (· with_reducible apply h35; simp only [hE, w64, mxE]; exact rat_Mul.I ‹_›); cbv)
    | ((with_reducible refine E2 (h35 _ _ (rat_Mul.J ‹rat_Mul.f _ _ _ _ _ _ _ = some _› ?_)) ?_); (· simp only [hE, w64, mxE]; try rfl); cbv)
    | ((with_reducible refine E2 (h41 _ _ (rat_Sign.I ‹_›)) ?_); cbv)
    | ((with_reducible apply E2); (· with_reducible apply h41; simp only [hE, w64, mxE]; exact rat_Sign.I ‹_›); cbv)
    | ((with_reducible refine E2 (h41 _ _ (rat_Sign.J ‹rat_Sign.f _ _ _ _ = some _› ?_)) ?_); (· simp only [hE, w64, mxE]; try rfl); cbv)
    | ((with_reducible refine E2 (h45 _ _ (rat_Same.I ‹_›)) ?_); cbv)
    | ((with_reducible apply E2); (· with_reducible apply h45; simp only [hE, w64, mxE]; exact rat_Same.I ‹_›); cbv)
    | ((with_reducible refine E2 (h45 _ _ (rat_Same.J ‹rat_Same.f _ _ _ _ _ _ _ = some _› ?_)) ?_); (· simp only [hE, w64, mxE]; try rfl); cbv)
    | ((with_reducible refine E2 (h48 _ _ (steelyardlaw07_By.I ‹_›)) ?_); cbv)
    | ((with_reducible apply E2); (· with_reducible apply h48; simp only [hE, w64, mxE]; exact steelyardlaw07_By.I ‹_›); cbv)
    | ((with_reducible refine E2 (h48 _ _ (steelyardlaw07_By.J ‹steelyardlaw07_By.f _ _ _ = some _› ?_)) ?_); (· simp only [hE, w64, mxE]; try rfl); cbv)
    | ((with_reducible refine t1 ?_ ?_); (· (simp only [hE, w64, decide_eq_true_eq, decide_eq_false_iff_not]; first | assumption | omega)); intro hb_; (try simp only [hb_]); cbv)
    | ((with_reducible refine t2 ?_ ?_); (· (simp only [hE, w64, decide_eq_true_eq, decide_eq_false_iff_not]; first | assumption | omega)); intro hb_; (try simp only [hb_]); cbv)
    | ((with_reducible refine t3 ?_ ?_); (· (simp only [hE, w64, decide_eq_true_eq, decide_eq_false_iff_not]; first | assumption | omega)); intro hb_; (try simp only [hb_]); cbv)
    | ((with_reducible refine t4 ?_ ?_); (· (simp only [hE, w64, decide_eq_true_eq, decide_eq_false_iff_not]; first | assumption | omega)); intro hb_; (try simp only [hb_]); cbv)
    | (rw [hu]; done)
    | (rw [hu]; simp only [hE, w64]; done)
    | (rw [hu]; simp only [hE, w64]; rfl)
    | (rw [hu]; simp only [hE, w64, Option.some.injEq, U.agg.injEq, U.tup.injEq, U.v.injEq, List.cons.injEq, Value.bool.injEq, and_true, true_and, decide_eq_true_eq, decide_eq_false_iff_not]; first | assumption | omega))
theorem steelyardlaw07_wakes.sound : SoundF Try.prog 23 steelyardlaw07_wakes.R :=
  Den.sound (l := [(21, steelyardkeep_Rat.R), (24, rat_Of.R), (28, rat_Good.R), (29, rat_Add.R), (30, rat_Div.R), (31, rat_Whole.R), (32, rat_Cmp.R), (35, rat_Mul.R), (41, rat_Sign.R), (45, rat_Same.R), (48, steelyardlaw07_By.R)]) (orc_cons steelyardkeep_Rat.sound (orc_cons rat_Of.sound (orc_cons rat_Good.sound (orc_cons rat_Add.sound (orc_cons rat_Div.sound (orc_cons rat_Whole.sound (orc_cons rat_Cmp.sound (orc_cons rat_Mul.sound (orc_cons rat_Sign.sound (orc_cons rat_Same.sound (orc_cons steelyardlaw07_By.sound (orc_nil)))))))))))) Try.func23 (by kernel_rfl) (by kernel_rfl) (by decide +kernel) fun _ _ hR => steelyardlaw07_wakes.body rfl (fun _ _ h => (.inl ⟨rfl, h⟩)) (fun _ _ h => (.inr (.inl ⟨rfl, h⟩))) (fun _ _ h => (.inr (.inr (.inl ⟨rfl, h⟩)))) (fun _ _ h => (.inr (.inr (.inr (.inl ⟨rfl, h⟩))))) (fun _ _ h => (.inr (.inr (.inr (.inr (.inl ⟨rfl, h⟩)))))) (fun _ _ h => (.inr (.inr (.inr (.inr (.inr (.inl ⟨rfl, h⟩))))))) (fun _ _ h => (.inr (.inr (.inr (.inr (.inr (.inr (.inl ⟨rfl, h⟩)))))))) (fun _ _ h => (.inr (.inr (.inr (.inr (.inr (.inr (.inr (.inl ⟨rfl, h⟩))))))))) (fun _ _ h => (.inr (.inr (.inr (.inr (.inr (.inr (.inr (.inr (.inl ⟨rfl, h⟩)))))))))) (fun _ _ h => (.inr (.inr (.inr (.inr (.inr (.inr (.inr (.inr (.inr (.inl ⟨rfl, h⟩))))))))))) (fun _ _ h => (.inr (.inr (.inr (.inr (.inr (.inr (.inr (.inr (.inr (.inr (.inl ⟨rfl, h⟩)))))))))))) hR rfl
end Go.Proofs.Yticngjjdjmadgaa.PU
end
section
set_option linter.unusedVariables false
set_option linter.unusedSimpArgs false
namespace Go.Proofs.Yticngjjdjmadgaa.PU
open Go Go.RowKit Go.Proofs.YticngjjdjmadgaaW.PrintWords Go.Proofs.YticngjjdjmadgaaW.PrintMore Go.Proofs.Yticngjjdjmadgaa.Den Go.Proofs.Yticngjjdjmadgaa.PL
def steelyardref06_Add.R (us : List U) (u : U) : Prop := ∃ (k : Nat) (a0_0 : Bool) (l0_1 : List Int) (a1_0 : Bool) (l1_1 : List Int) (r1 : Bool) (r2 : List Int), us = [.agg [.v (.bool a0_0), .l l0_1], .agg [.v (.bool a1_0), .l l1_1]] ∧ steelyardref06_Add.f k a0_0 l0_1 a1_0 l1_1 = some (r1, r2) ∧ u = .agg [.v (.bool r1), .l r2]
theorem steelyardref06_Add.I {k : Nat} {a0_0 : Bool} {l0_1 : List Int} {a1_0 : Bool} {l1_1 : List Int} {r1 : Bool} {r2 : List Int} (h : steelyardref06_Add.f k a0_0 l0_1 a1_0 l1_1 = some (r1, r2)) : steelyardref06_Add.R [.agg [.v (.bool a0_0), .l l0_1], .agg [.v (.bool a1_0), .l l1_1]] (.agg [.v (.bool r1), .l r2]) := ⟨_, _, _, _, _, _, _, rfl, h, rfl⟩
theorem steelyardref06_Add.J {k : Nat} {a0_0 : Bool} {l0_1 : List Int} {a1_0 : Bool} {l1_1 : List Int} {r1 : Bool} {r2 : List Int} (h : steelyardref06_Add.f k a0_0 l0_1 a1_0 l1_1 = some (r1, r2)) {us : List U} (hus : us = [.agg [.v (.bool a0_0), .l l0_1], .agg [.v (.bool a1_0), .l l1_1]]) : steelyardref06_Add.R us (.agg [.v (.bool r1), .l r2]) := ⟨_, _, _, _, _, _, _, hus, h, rfl⟩
theorem steelyardref06_Add.E {β : Type} {k : Nat} {a0_0 : Bool} {l0_1 : List Int} {a1_0 : Bool} {l1_1 : List Int} {g : Bool × List Int → Option β} {z : β} {Q : Prop} (h : (steelyardref06_Add.f k a0_0 l0_1 a1_0 l1_1).bind g = some z) (c : ∀ (r1 : Bool) (r2 : List Int), steelyardref06_Add.f k a0_0 l0_1 a1_0 l1_1 = some (r1, r2) → g (r1, r2) = some z → Q) : Q := by
  obtain ⟨p, h1, h2⟩ := Option.bind_eq_some_iff.1 h
  exact c p.1 p.2 h1 h2
set_option maxHeartbeats 4000000 in
set_option maxRecDepth 100000 in
theorem steelyardref06_Add.body {D : Dat} {C : Orc} (hD : D = real) (h58 : ∀ us u, steelyardref06_Make.R us u → C 58 us u) (h76 : ∀ us u, steelyardref01_Add.R us u → C 76 us u) (h90 : ∀ us u, steelyardref06_Trim.R us u → C 90 us u) (h109 : ∀ us u, steelyardref01_Cmp.R us u → C 109 us u) (h110 : ∀ us u, steelyardref01_Sub.R us u → C 110 us u) {us : List U} {u : U} (hR : steelyardref06_Add.R us u) {Q : Prop} (hQ : body tys D C Try.f104 us u = Q) : Q := by
  obtain ⟨k, a0_0, l0_1, a1_0, l1_1, r1, r2, rfl, h, hu⟩ := hR
  obtain ⟨len, add, sub, mul, rem, neg, conv, max, eq, ne, lt, le, nth, zeros, copy, cpd, bor⟩ := D
  simp only [real, Dat.mk.injEq] at hD
  obtain ⟨elen, eadd, esub, emul, erem, eneg, econv, emax, eeq, ene, elt, ele, enth, ezeros, ecopy, ecpd, ebor⟩ := hD
  have hE := And.intro elen (And.intro eadd (And.intro esub (And.intro emul (And.intro erem (And.intro eneg (And.intro econv (And.intro ebor (And.intro emax (And.intro eeq (And.intro ene (And.intro elt ele)))))))))))
  cases a0_0 <;>
  cases a1_0 <;>
  unfold steelyardref06_Add.f at h <;>
  (repeat' first
    | (simp (maxSteps := 2000000) only [↓reduceIte, Bool.false_eq_true, Bool.not_true, Bool.not_false, reduceCtorEq, b00, b01, b10, b11, n00, n01, n10, n11] at h; done)
    | (simp (maxSteps := 2000000) only [↓reduceIte, Bool.false_eq_true, Bool.not_true, Bool.not_false, Option.bind_some, splice_self, b00, b01, b10, b11, n00, n01, n10, n11] at h)
    | (rw [‹steelyardref06_Make.f _ _ _ = some _›] at h; simp only [Option.bind_some] at h)
    | (with_reducible refine steelyardref06_Make.E h ?_; clear h; rintro _ _ _ h)
    | (with_reducible refine steelyardref01_Add.E h ?_; clear h; rintro _ _ h)
    | (rw [‹steelyardref06_Trim.f _ _ _ = some _›] at h; simp only [Option.bind_some] at h)
    | (with_reducible refine steelyardref06_Trim.E h ?_; clear h; rintro (_ | _) _ _ h)
    | (with_reducible refine steelyardref01_Cmp.E h ?_; clear h; rintro _ _ h)
    | (rw [‹steelyardref01_Sub.f _ _ _ = some _›] at h; simp only [Option.bind_some] at h)
    | (with_reducible refine steelyardref01_Sub.E h ?_; clear h; rintro _ _ h)
    | (simp (maxSteps := 2000000) only [↓reduceIte, Bool.false_eq_true, Bool.not_true, Bool.not_false, reduceCtorEq, decide_eq_true_eq, bne_iff_ne, ne_eq, beq_iff_eq, Option.bind_some, splice_self, b00, b01, b10, b11, n00, n01, n10, n11] at h)
    | (with_reducible refine iteE h ?_ ?_ <;> clear h <;> intro _ h)
    | (split at h)) <;>
  (injection h with h) <;>
  (try simp only [Prod.mk.injEq] at h) <;>
  (obtain ⟨rfl, rfl⟩ := h) <;>
  (rw [← hQ]; clear hQ) <;>
  (cbv) <;>
  (repeat first
    | ((with_reducible refine E2 (h58 _ _ (steelyardref06_Make.I ‹_›)) ?_); cbv)
    | ((with_reducible apply E2); (· with_reducible apply h58; simp only [hE, w64, mxE]; exact steelyardref06_Make.I ‹_›); cbv)
    | ((with_reducible refine E2 (h58 _ _ (steelyardref06_Make.J ‹steelyardref06_Make.f _ _ _ = some _› ?_)) ?_); (· simp only [hE, w64, mxE]; try rfl); cbv)
    | ((with_reducible refine E2 (h76 _ _ (steelyardref01_Add.I ‹_›)) ?_); cbv)
    | ((with_reducible apply E2); (· with_reducible apply h76; simp only [hE, w64, mxE]; exact steelyardref01_Add.I ‹_›); cbv)
    | ((with_reducible refine E2 (h76 _ _ (steelyardref01_Add.J ‹steelyardref01_Add.f _ _ _ = some _› ?_)) ?_); (· simp only [hE, w64, mxE]; try rfl); cbv)
    | ((with_reducible refine E2 (h90 _ _ (steelyardref06_Trim.I ‹_›)) ?_); cbv)
    | ((with_reducible apply E2); (· with_reducible apply h90; simp only [hE, w64, mxE]; exact steelyardref06_Trim.I ‹_›); cbv)
    | ((with_reducible refine E2 (h90 _ _ (steelyardref06_Trim.J ‹steelyardref06_Trim.f _ _ _ = some _› ?_)) ?_); (· simp only [hE, w64, mxE]; try rfl); cbv)
    | ((with_reducible refine E2 (h109 _ _ (steelyardref01_Cmp.I ‹_›)) ?_); cbv)
    | ((with_reducible apply E2); (· with_reducible apply h109; simp only [hE, w64, mxE]; exact steelyardref01_Cmp.I ‹_›); cbv)
    | ((with_reducible refine E2 (h109 _ _ (steelyardref01_Cmp.J ‹steelyardref01_Cmp.f _ _ _ = some _› ?_)) ?_); (· simp only [hE, w64, mxE]; try rfl); cbv)
    | ((with_reducible refine E2 (h110 _ _ (steelyardref01_Sub.I ‹_›)) ?_); cbv)
    | ((with_reducible apply E2); (· with_reducible apply h110; simp only [hE, w64, mxE]; exact steelyardref01_Sub.I ‹_›); cbv)
    | ((with_reducible refine E2 (h110 _ _ (steelyardref01_Sub.J ‹steelyardref01_Sub.f _ _ _ = some _› ?_)) ?_); (· simp only [hE, w64, mxE]; try rfl); cbv)
    | ((with_reducible refine t1 ?_ ?_); (· (simp only [hE, w64, decide_eq_true_eq, decide_eq_false_iff_not]; first | assumption | omega)); intro hb_; (try simp only [hb_]); cbv)
    | ((with_reducible refine t2 ?_ ?_); (· (simp only [hE, w64, decide_eq_true_eq, decide_eq_false_iff_not]; first | assumption | omega)); intro hb_; (try simp only [hb_]); cbv)
    | ((with_reducible refine t3 ?_ ?_); (· (simp only [hE, w64, decide_eq_true_eq, decide_eq_false_iff_not]; first | assumption | omega)); intro hb_; (try simp only [hb_]); cbv)
    | ((with_reducible refine t4 ?_ ?_); (· (simp only [hE, w64, decide_eq_true_eq, decide_eq_false_iff_not]; first | assumption | omega)); intro hb_; (try simp only [hb_]); cbv)
    | (rw [hu]; done)
    | (rw [hu]; simp only [hE, w64]; done)
    | (rw [hu]; simp only [hE, w64]; rfl)
    | (rw [hu]; simp only [hE, w64, Option.some.injEq, U.agg.injEq, U.tup.injEq, U.v.injEq, List.cons.injEq, Value.bool.injEq, and_true, true_and, decide_eq_true_eq, decide_eq_false_iff_not]; first | assumption | omega))
theorem steelyardref06_Add.sound : SoundF Try.prog 104 steelyardref06_Add.R :=
  Den.sound (l := [(58, steelyardref06_Make.R), (76, steelyardref01_Add.R), (90, steelyardref06_Trim.R), (109, steelyardref01_Cmp.R), (110, steelyardref01_Sub.R)]) (orc_cons steelyardref06_Make.sound (orc_cons steelyardref01_Add.sound (orc_cons steelyardref06_Trim.sound (orc_cons steelyardref01_Cmp.sound (orc_cons steelyardref01_Sub.sound (orc_nil)))))) Try.func104 (by kernel_rfl) (by kernel_rfl) (by decide +kernel) fun _ _ hR => steelyardref06_Add.body rfl (fun _ _ h => (.inl ⟨rfl, h⟩)) (fun _ _ h => (.inr (.inl ⟨rfl, h⟩))) (fun _ _ h => (.inr (.inr (.inl ⟨rfl, h⟩)))) (fun _ _ h => (.inr (.inr (.inr (.inl ⟨rfl, h⟩))))) (fun _ _ h => (.inr (.inr (.inr (.inr (.inl ⟨rfl, h⟩)))))) hR rfl
end Go.Proofs.Yticngjjdjmadgaa.PU
end
section
set_option linter.unusedVariables false
set_option linter.unusedSimpArgs false
namespace Go.Proofs.Yticngjjdjmadgaa.PU
open Go Go.RowKit Go.Proofs.YticngjjdjmadgaaW.PrintWords Go.Proofs.YticngjjdjmadgaaW.PrintMore Go.Proofs.Yticngjjdjmadgaa.Den Go.Proofs.Yticngjjdjmadgaa.PL
def steelyardref07_pos.R (us : List U) (u : U) : Prop := ∃ (k : Nat) (l0 : List Int) (r1 : Bool) (r2 : List Int), us = [.l l0] ∧ steelyardref07_pos.f k l0 = some (r1, r2) ∧ u = .agg [.v (.bool r1), .l r2]
theorem steelyardref07_pos.I {k : Nat} {l0 : List Int} {r1 : Bool} {r2 : List Int} (h : steelyardref07_pos.f k l0 = some (r1, r2)) : steelyardref07_pos.R [.l l0] (.agg [.v (.bool r1), .l r2]) := ⟨_, _, _, _, rfl, h, rfl⟩
theorem steelyardref07_pos.J {k : Nat} {l0 : List Int} {r1 : Bool} {r2 : List Int} (h : steelyardref07_pos.f k l0 = some (r1, r2)) {us : List U} (hus : us = [.l l0]) : steelyardref07_pos.R us (.agg [.v (.bool r1), .l r2]) := ⟨_, _, _, _, hus, h, rfl⟩
theorem steelyardref07_pos.E {β : Type} {k : Nat} {l0 : List Int} {g : Bool × List Int → Option β} {z : β} {Q : Prop} (h : (steelyardref07_pos.f k l0).bind g = some z) (c : ∀ (r1 : Bool) (r2 : List Int), steelyardref07_pos.f k l0 = some (r1, r2) → g (r1, r2) = some z → Q) : Q := by
  obtain ⟨p, h1, h2⟩ := Option.bind_eq_some_iff.1 h
  exact c p.1 p.2 h1 h2
set_option maxHeartbeats 4000000 in
set_option maxRecDepth 100000 in
theorem steelyardref07_pos.body {D : Dat} {C : Orc} (hD : D = real) (h58 : ∀ us u, steelyardref06_Make.R us u → C 58 us u) {us : List U} {u : U} (hR : steelyardref07_pos.R us u) {Q : Prop} (hQ : body tys D C Try.f105 us u = Q) : Q := by
  obtain ⟨k, l0, r1, r2, rfl, h, hu⟩ := hR
  obtain ⟨len, add, sub, mul, rem, neg, conv, max, eq, ne, lt, le, nth, zeros, copy, cpd, bor⟩ := D
  simp only [real, Dat.mk.injEq] at hD
  obtain ⟨elen, eadd, esub, emul, erem, eneg, econv, emax, eeq, ene, elt, ele, enth, ezeros, ecopy, ecpd, ebor⟩ := hD
  have hE := And.intro elen (And.intro eadd (And.intro esub (And.intro emul (And.intro erem (And.intro eneg (And.intro econv (And.intro ebor (And.intro emax (And.intro eeq (And.intro ene (And.intro elt ele)))))))))))
  unfold steelyardref07_pos.f at h <;>
  (repeat' first
    | (simp (maxSteps := 2000000) only [↓reduceIte, Bool.false_eq_true, Bool.not_true, Bool.not_false, reduceCtorEq, b00, b01, b10, b11, n00, n01, n10, n11] at h; done)
    | (simp (maxSteps := 2000000) only [↓reduceIte, Bool.false_eq_true, Bool.not_true, Bool.not_false, Option.bind_some, splice_self, b00, b01, b10, b11, n00, n01, n10, n11] at h)
    | (with_reducible refine steelyardref06_Make.E h ?_; clear h; rintro _ _ _ h)
    | (simp (maxSteps := 2000000) only [↓reduceIte, Bool.false_eq_true, Bool.not_true, Bool.not_false, reduceCtorEq, decide_eq_true_eq, bne_iff_ne, ne_eq, beq_iff_eq, Option.bind_some, splice_self, b00, b01, b10, b11, n00, n01, n10, n11] at h)
    | (with_reducible refine iteE h ?_ ?_ <;> clear h <;> intro _ h)
    | (split at h)) <;>
  (injection h with h) <;>
  (try simp only [Prod.mk.injEq] at h) <;>
  (obtain ⟨rfl, rfl⟩ := h) <;>
  (rw [← hQ]; clear hQ) <;>
  (cbv) <;>
  (repeat first
    | ((with_reducible refine E2 (h58 _ _ (steelyardref06_Make.I ‹_›)) ?_); cbv)
    | ((with_reducible apply E2); (· with_reducible apply h58; simp only [hE, w64, mxE]; exact steelyardref06_Make.I ‹_›); cbv)
    | ((with_reducible refine E2 (h58 _ _ (steelyardref06_Make.J ‹steelyardref06_Make.f _ _ _ = some _› ?_)) ?_); (· simp only [hE, w64, mxE]; try rfl); cbv)
    | (rw [hu]; done)
    | (rw [hu]; simp only [hE, w64]; done)
    | (rw [hu]; simp only [hE, w64]; rfl)
    | (rw [hu]; simp only [hE, w64, Option.some.injEq, U.agg.injEq, U.tup.injEq, U.v.injEq, List.cons.injEq, Value.bool.injEq, and_true, true_and, decide_eq_true_eq, decide_eq_false_iff_not]; first | assumption | omega))
theorem steelyardref07_pos.sound : SoundF Try.prog 105 steelyardref07_pos.R :=
  Den.sound (l := [(58, steelyardref06_Make.R)]) (orc_cons steelyardref06_Make.sound (orc_nil)) Try.func105 (by kernel_rfl) (by kernel_rfl) (by decide +kernel) fun _ _ hR => steelyardref07_pos.body rfl (fun _ _ h => (.inl ⟨rfl, h⟩)) hR rfl
end Go.Proofs.Yticngjjdjmadgaa.PU
end
section
set_option linter.unusedVariables false
set_option linter.unusedSimpArgs false
namespace Go.Proofs.Yticngjjdjmadgaa.PU
open Go Go.RowKit Go.Proofs.YticngjjdjmadgaaW.PrintWords Go.Proofs.YticngjjdjmadgaaW.PrintMore Go.Proofs.Yticngjjdjmadgaa.Den Go.Proofs.Yticngjjdjmadgaa.PL
def steelyardref07_Plus.R (us : List U) (u : U) : Prop := ∃ (k : Nat) (a0_0 : Bool) (l0_1 : List Int) (l0_2 : List Int) (a1_0 : Bool) (l1_1 : List Int) (l1_2 : List Int) (r1 : Bool) (r2 : List Int) (r3 : List Int), us = [.agg [.v (.bool a0_0), .l l0_1, .l l0_2], .agg [.v (.bool a1_0), .l l1_1, .l l1_2]] ∧ steelyardref07_Plus.f k a0_0 l0_1 l0_2 a1_0 l1_1 l1_2 = some (r1, r2, r3) ∧ u = .agg [.v (.bool r1), .l r2, .l r3]
theorem steelyardref07_Plus.I {k : Nat} {a0_0 : Bool} {l0_1 : List Int} {l0_2 : List Int} {a1_0 : Bool} {l1_1 : List Int} {l1_2 : List Int} {r1 : Bool} {r2 : List Int} {r3 : List Int} (h : steelyardref07_Plus.f k a0_0 l0_1 l0_2 a1_0 l1_1 l1_2 = some (r1, r2, r3)) : steelyardref07_Plus.R [.agg [.v (.bool a0_0), .l l0_1, .l l0_2], .agg [.v (.bool a1_0), .l l1_1, .l l1_2]] (.agg [.v (.bool r1), .l r2, .l r3]) := ⟨_, _, _, _, _, _, _, _, _, _, rfl, h, rfl⟩
theorem steelyardref07_Plus.J {k : Nat} {a0_0 : Bool} {l0_1 : List Int} {l0_2 : List Int} {a1_0 : Bool} {l1_1 : List Int} {l1_2 : List Int} {r1 : Bool} {r2 : List Int} {r3 : List Int} (h : steelyardref07_Plus.f k a0_0 l0_1 l0_2 a1_0 l1_1 l1_2 = some (r1, r2, r3)) {us : List U} (hus : us = [.agg [.v (.bool a0_0), .l l0_1, .l l0_2], .agg [.v (.bool a1_0), .l l1_1, .l l1_2]]) : steelyardref07_Plus.R us (.agg [.v (.bool r1), .l r2, .l r3]) := ⟨_, _, _, _, _, _, _, _, _, _, hus, h, rfl⟩
theorem steelyardref07_Plus.E {β : Type} {k : Nat} {a0_0 : Bool} {l0_1 : List Int} {l0_2 : List Int} {a1_0 : Bool} {l1_1 : List Int} {l1_2 : List Int} {g : Bool × List Int × List Int → Option β} {z : β} {Q : Prop} (h : (steelyardref07_Plus.f k a0_0 l0_1 l0_2 a1_0 l1_1 l1_2).bind g = some z) (c : ∀ (r1 : Bool) (r2 : List Int) (r3 : List Int), steelyardref07_Plus.f k a0_0 l0_1 l0_2 a1_0 l1_1 l1_2 = some (r1, r2, r3) → g (r1, r2, r3) = some z → Q) : Q := by
  obtain ⟨p, h1, h2⟩ := Option.bind_eq_some_iff.1 h
  exact c p.1 p.2.1 p.2.2 h1 h2
set_option maxHeartbeats 4000000 in
set_option maxRecDepth 100000 in
theorem steelyardref07_Plus.body {D : Dat} {C : Orc} (hD : D = real) (h33 : ∀ us u, steelyardref02_Of.R us u → C 33 us u) (h57 : ∀ us u, steelyardref06_Mul.R us u → C 57 us u) (h69 : ∀ us u, steelyardref07_Wide.R us u → C 69 us u) (h104 : ∀ us u, steelyardref06_Add.R us u → C 104 us u) (h105 : ∀ us u, steelyardref07_pos.R us u → C 105 us u) {us : List U} {u : U} (hR : steelyardref07_Plus.R us u) {Q : Prop} (hQ : body tys D C Try.f81 us u = Q) : Q := by
  obtain ⟨k, a0_0, l0_1, l0_2, a1_0, l1_1, l1_2, r1, r2, r3, rfl, h, hu⟩ := hR
  obtain ⟨len, add, sub, mul, rem, neg, conv, max, eq, ne, lt, le, nth, zeros, copy, cpd, bor⟩ := D
  simp only [real, Dat.mk.injEq] at hD
  obtain ⟨elen, eadd, esub, emul, erem, eneg, econv, emax, eeq, ene, elt, ele, enth, ezeros, ecopy, ecpd, ebor⟩ := hD
  have hE := And.intro elen (And.intro eadd (And.intro esub (And.intro emul (And.intro erem (And.intro eneg (And.intro econv (And.intro ebor (And.intro emax (And.intro eeq (And.intro ene (And.intro elt ele)))))))))))
  cases a0_0 <;>
  cases a1_0 <;>
  unfold steelyardref07_Plus.f at h <;>
  (repeat' first
    | (simp (maxSteps := 2000000) only [↓reduceIte, Bool.false_eq_true, Bool.not_true, Bool.not_false, reduceCtorEq, b00, b01, b10, b11, n00, n01, n10, n11] at h; done)
    | (simp (maxSteps := 2000000) only [↓reduceIte, Bool.false_eq_true, Bool.not_true, Bool.not_false, Option.bind_some, splice_self, b00, b01, b10, b11, n00, n01, n10, n11] at h)
    | (with_reducible refine steelyardref02_Of.E h ?_; clear h; rintro _ _ h)
    | (rw [‹steelyardref06_Mul.f _ _ _ _ _ = some _›] at h; simp only [Option.bind_some] at h)
    | (with_reducible refine steelyardref06_Mul.E h ?_; clear h; rintro _ _ _ h)
    | (with_reducible refine steelyardref07_Wide.E h ?_; clear h; rintro _ _ _ _ h)
    | (with_reducible refine steelyardref06_Add.E h ?_; clear h; rintro _ _ _ h)
    | (rw [‹steelyardref07_pos.f _ _ = some _›] at h; simp only [Option.bind_some] at h)
    | (with_reducible refine steelyardref07_pos.E h ?_; clear h; rintro _ _ _ h)
    | (simp (maxSteps := 2000000) only [↓reduceIte, Bool.false_eq_true, Bool.not_true, Bool.not_false, reduceCtorEq, decide_eq_true_eq, bne_iff_ne, ne_eq, beq_iff_eq, Option.bind_some, splice_self, b00, b01, b10, b11, n00, n01, n10, n11] at h)
    | (with_reducible refine iteE h ?_ ?_ <;> clear h <;> intro _ h)
    | (split at h)) <;>
  (injection h with h) <;>
  (try simp only [Prod.mk.injEq] at h) <;>
  (obtain ⟨rfl, rfl, rfl⟩ := h) <;>
  (rw [← hQ]; clear hQ) <;>
  (cbv) <;>
  (repeat first
    | ((with_reducible refine E2 (h33 _ _ (steelyardref02_Of.I ‹_›)) ?_); cbv)
    | ((with_reducible apply E2); (· with_reducible apply h33; simp only [hE, w64, mxE]; exact steelyardref02_Of.I ‹_›); cbv)
    | ((with_reducible refine E2 (h33 _ _ (steelyardref02_Of.J ‹steelyardref02_Of.f _ _ _ = some _› ?_)) ?_); (· simp only [hE, w64, mxE]; try rfl); cbv)
    | ((with_reducible refine E2 (h57 _ _ (steelyardref06_Mul.I ‹_›)) ?_); cbv)
    | ((with_reducible apply E2); (· with_reducible apply h57; simp only [hE, w64, mxE]; exact steelyardref06_Mul.I ‹_›); cbv)
    | ((with_reducible refine E2 (h57 _ _ (steelyardref06_Mul.J ‹steelyardref06_Mul.f _ _ _ _ _ = some _› ?_)) ?_); (· simp only [hE, w64, mxE]; try rfl); cbv)
    | ((with_reducible refine E2 (h69 _ _ (steelyardref07_Wide.I ‹_›)) ?_); cbv)
    | ((with_reducible apply E2); (· with_reducible apply h69; simp only [hE, w64, mxE]; exact steelyardref07_Wide.I ‹_›); cbv)
    | ((with_reducible refine E2 (h69 _ _ (steelyardref07_Wide.J ‹steelyardref07_Wide.f _ _ _ _ = some _› ?_)) ?_); (· simp only [hE, w64, mxE]; try rfl); cbv)
    | ((with_reducible refine E2 (h104 _ _ (steelyardref06_Add.I ‹_›)) ?_); cbv)
    | ((with_reducible apply E2); (· with_reducible apply h104; simp only [hE, w64, mxE]; exact steelyardref06_Add.I ‹_›); cbv)
    | ((with_reducible refine E2 (h104 _ _ (steelyardref06_Add.J ‹steelyardref06_Add.f _ _ _ _ _ = some _› ?_)) ?_); (· simp only [hE, w64, mxE]; try rfl); cbv)
    | ((with_reducible refine E2 (h105 _ _ (steelyardref07_pos.I ‹_›)) ?_); cbv)
    | ((with_reducible apply E2); (· with_reducible apply h105; simp only [hE, w64, mxE]; exact steelyardref07_pos.I ‹_›); cbv)
    | ((with_reducible refine E2 (h105 _ _ (steelyardref07_pos.J ‹steelyardref07_pos.f _ _ = some _› ?_)) ?_); (· simp only [hE, w64, mxE]; try rfl); cbv)
    | (rw [hu]; done)
    | (rw [hu]; simp only [hE, w64]; done)
    | (rw [hu]; simp only [hE, w64]; rfl)
    | (rw [hu]; simp only [hE, w64, Option.some.injEq, U.agg.injEq, U.tup.injEq, U.v.injEq, List.cons.injEq, Value.bool.injEq, and_true, true_and, decide_eq_true_eq, decide_eq_false_iff_not]; first | assumption | omega))
theorem steelyardref07_Plus.sound : SoundF Try.prog 81 steelyardref07_Plus.R :=
  Den.sound (l := [(33, steelyardref02_Of.R), (57, steelyardref06_Mul.R), (69, steelyardref07_Wide.R), (104, steelyardref06_Add.R), (105, steelyardref07_pos.R)]) (orc_cons steelyardref02_Of.sound (orc_cons steelyardref06_Mul.sound (orc_cons steelyardref07_Wide.sound (orc_cons steelyardref06_Add.sound (orc_cons steelyardref07_pos.sound (orc_nil)))))) Try.func81 (by kernel_rfl) (by kernel_rfl) (by decide +kernel) fun _ _ hR => steelyardref07_Plus.body rfl (fun _ _ h => (.inl ⟨rfl, h⟩)) (fun _ _ h => (.inr (.inl ⟨rfl, h⟩))) (fun _ _ h => (.inr (.inr (.inl ⟨rfl, h⟩)))) (fun _ _ h => (.inr (.inr (.inr (.inl ⟨rfl, h⟩))))) (fun _ _ h => (.inr (.inr (.inr (.inr (.inl ⟨rfl, h⟩)))))) hR rfl
end Go.Proofs.Yticngjjdjmadgaa.PU
end
section
set_option linter.unusedVariables false
set_option linter.unusedSimpArgs false
namespace Go.Proofs.Yticngjjdjmadgaa.PU
open Go Go.RowKit Go.Proofs.YticngjjdjmadgaaW.PrintWords Go.Proofs.YticngjjdjmadgaaW.PrintMore Go.Proofs.Yticngjjdjmadgaa.Den Go.Proofs.Yticngjjdjmadgaa.PL
def steelyardref07_Add.R (us : List U) (u : U) : Prop := ∃ (k : Nat) (a0_0 : Bool) (l0_1 : List Int) (l0_2 : List Int) (a1_0 : Bool) (l1_1 : List Int) (l1_2 : List Int) (r1 : Bool) (r2 : List Int) (r3 : List Int) (r4 : Int), us = [.agg [.v (.bool a0_0), .l l0_1, .l l0_2], .agg [.v (.bool a1_0), .l l1_1, .l l1_2]] ∧ steelyardref07_Add.f k a0_0 l0_1 l0_2 a1_0 l1_1 l1_2 = some (r1, r2, r3, r4) ∧ u = .agg [.v (.bool r1), .l r2, .l r3, .v (.int .i64 r4)]
theorem steelyardref07_Add.I {k : Nat} {a0_0 : Bool} {l0_1 : List Int} {l0_2 : List Int} {a1_0 : Bool} {l1_1 : List Int} {l1_2 : List Int} {r1 : Bool} {r2 : List Int} {r3 : List Int} {r4 : Int} (h : steelyardref07_Add.f k a0_0 l0_1 l0_2 a1_0 l1_1 l1_2 = some (r1, r2, r3, r4)) : steelyardref07_Add.R [.agg [.v (.bool a0_0), .l l0_1, .l l0_2], .agg [.v (.bool a1_0), .l l1_1, .l l1_2]] (.agg [.v (.bool r1), .l r2, .l r3, .v (.int .i64 r4)]) := ⟨_, _, _, _, _, _, _, _, _, _, _, rfl, h, rfl⟩
set_option maxHeartbeats 4000000 in
set_option maxRecDepth 100000 in
theorem steelyardref07_Add.body {D : Dat} {C : Orc} (hD : D = real) (h22 : ∀ us u, steelyardref07_Good.R us u → C 22 us u) (h54 : ∀ us u, steelyardref07_Limit.R us u → C 54 us u) (h81 : ∀ us u, steelyardref07_Plus.R us u → C 81 us u) {us : List U} {u : U} (hR : steelyardref07_Add.R us u) {Q : Prop} (hQ : body tys D C Try.f36 us u = Q) : Q := by
  obtain ⟨k, a0_0, l0_1, l0_2, a1_0, l1_1, l1_2, r1, r2, r3, r4, rfl, h, hu⟩ := hR
  obtain ⟨len, add, sub, mul, rem, neg, conv, max, eq, ne, lt, le, nth, zeros, copy, cpd, bor⟩ := D
  simp only [real, Dat.mk.injEq] at hD
  obtain ⟨elen, eadd, esub, emul, erem, eneg, econv, emax, eeq, ene, elt, ele, enth, ezeros, ecopy, ecpd, ebor⟩ := hD
  have hE := And.intro elen (And.intro eadd (And.intro esub (And.intro emul (And.intro erem (And.intro eneg (And.intro econv (And.intro ebor (And.intro emax (And.intro eeq (And.intro ene (And.intro elt ele)))))))))))
  cases a0_0 <;>
  cases a1_0 <;>
  unfold steelyardref07_Add.f at h <;>
  (repeat' first
    | (simp (maxSteps := 2000000) only [↓reduceIte, Bool.false_eq_true, Bool.not_true, Bool.not_false, reduceCtorEq, b00, b01, b10, b11, n00, n01, n10, n11] at h; done)
    | (simp (maxSteps := 2000000) only [↓reduceIte, Bool.false_eq_true, Bool.not_true, Bool.not_false, Option.bind_some, splice_self, b00, b01, b10, b11, n00, n01, n10, n11] at h)
    | (rw [‹steelyardref07_Good.f _ _ _ _ = some _›] at h; simp only [Option.bind_some] at h)
    | (with_reducible refine steelyardref07_Good.E h ?_; clear h; rintro (_ | _) _ h)
    | (with_reducible refine steelyardref07_Limit.E h ?_; clear h; rintro _ _ _ _ _ h)
    | (with_reducible refine steelyardref07_Plus.E h ?_; clear h; rintro _ _ _ _ h)
    | (unfold steelyardref07_Add.j0 at h)
    | (simp (maxSteps := 2000000) only [↓reduceIte, Bool.false_eq_true, Bool.not_true, Bool.not_false, reduceCtorEq, decide_eq_true_eq, bne_iff_ne, ne_eq, beq_iff_eq, Option.bind_some, splice_self, b00, b01, b10, b11, n00, n01, n10, n11] at h)
    | (with_reducible refine iteE h ?_ ?_ <;> clear h <;> intro _ h)
    | (split at h)) <;>
  (injection h with h) <;>
  (try simp only [Prod.mk.injEq] at h) <;>
  (obtain ⟨rfl, rfl, rfl, rfl⟩ := h) <;>
  (rw [← hQ]; clear hQ) <;>
  (cbv) <;>
  (repeat first
    | ((with_reducible refine E2 (h22 _ _ (steelyardref07_Good.I ‹_›)) ?_); cbv)
    | ((with_reducible apply E2); (· with_reducible apply h22; simp only [hE, w64, mxE]; exact steelyardref07_Good.I ‹_›); cbv)
    | ((with_reducible refine E2 (h22 _ _ (steelyardref07_Good.J ‹steelyardref07_Good.f _ _ _ _ = some _› ?_)) ?_); (· simp only [hE, w64, mxE]; try rfl); cbv)
    | ((with_reducible refine E2 (h54 _ _ (steelyardref07_Limit.I ‹_›)) ?_); cbv)
    | ((with_reducible apply E2); (· with_reducible apply h54; simp only [hE, w64, mxE]; exact steelyardref07_Limit.I ‹_›); cbv)
    | ((with_reducible refine E2 (h54 _ _ (steelyardref07_Limit.J ‹steelyardref07_Limit.f _ _ _ = some _› ?_)) ?_); (· simp only [hE, w64, mxE]; try rfl); cbv)
    | ((with_reducible refine E2 (h81 _ _ (steelyardref07_Plus.I ‹_›)) ?_); cbv)
    | ((with_reducible apply E2); (· with_reducible apply h81; simp only [hE, w64, mxE]; exact steelyardref07_Plus.I ‹_›); cbv)
    | ((with_reducible refine E2 (h81 _ _ (steelyardref07_Plus.J ‹steelyardref07_Plus.f _ _ _ _ _ _ _ = some _› ?_)) ?_); (· simp only [hE, w64, mxE]; try rfl); cbv)
    | ((with_reducible refine t1 ?_ ?_); (· (simp only [hE, w64, decide_eq_true_eq, decide_eq_false_iff_not]; first | assumption | omega)); intro hb_; (try simp only [hb_]); cbv)
    | ((with_reducible refine t2 ?_ ?_); (· (simp only [hE, w64, decide_eq_true_eq, decide_eq_false_iff_not]; first | assumption | omega)); intro hb_; (try simp only [hb_]); cbv)
    | ((with_reducible refine t3 ?_ ?_); (· (simp only [hE, w64, decide_eq_true_eq, decide_eq_false_iff_not]; first | assumption | omega)); intro hb_; (try simp only [hb_]); cbv)
    | ((with_reducible refine t4 ?_ ?_); (· (simp only [hE, w64, decide_eq_true_eq, decide_eq_false_iff_not]; first | assumption | omega)); intro hb_; (try simp only [hb_]); cbv)
    | (rw [hu]; done)
    | (rw [hu]; simp only [hE, w64]; done)
    | (rw [hu]; simp only [hE, w64]; rfl)
    | (rw [hu]; simp only [hE, w64, Option.some.injEq, U.agg.injEq, U.tup.injEq, U.v.injEq, List.cons.injEq, Value.bool.injEq, and_true, true_and, decide_eq_true_eq, decide_eq_false_iff_not]; first | assumption | omega))
theorem steelyardref07_Add.sound : SoundF Try.prog 36 steelyardref07_Add.R :=
  Den.sound (l := [(22, steelyardref07_Good.R), (54, steelyardref07_Limit.R), (81, steelyardref07_Plus.R)]) (orc_cons steelyardref07_Good.sound (orc_cons steelyardref07_Limit.sound (orc_cons steelyardref07_Plus.sound (orc_nil)))) Try.func36 (by kernel_rfl) (by kernel_rfl) (by decide +kernel) fun _ _ hR => steelyardref07_Add.body rfl (fun _ _ h => (.inl ⟨rfl, h⟩)) (fun _ _ h => (.inr (.inl ⟨rfl, h⟩))) (fun _ _ h => (.inr (.inr (.inl ⟨rfl, h⟩)))) hR rfl
end Go.Proofs.Yticngjjdjmadgaa.PU
end
section
set_option linter.unusedVariables false
set_option linter.unusedSimpArgs false
namespace Go.Proofs.Yticngjjdjmadgaa.PU
open Go Go.RowKit Go.Proofs.YticngjjdjmadgaaW.PrintWords Go.Proofs.YticngjjdjmadgaaW.PrintMore Go.Proofs.Yticngjjdjmadgaa.Den Go.Proofs.Yticngjjdjmadgaa.PL
def steelyardref06_Neg.R (us : List U) (u : U) : Prop := ∃ (k : Nat) (a0_0 : Bool) (l0_1 : List Int) (r1 : Bool) (r2 : List Int), us = [.agg [.v (.bool a0_0), .l l0_1]] ∧ steelyardref06_Neg.f k a0_0 l0_1 = some (r1, r2) ∧ u = .agg [.v (.bool r1), .l r2]
theorem steelyardref06_Neg.I {k : Nat} {a0_0 : Bool} {l0_1 : List Int} {r1 : Bool} {r2 : List Int} (h : steelyardref06_Neg.f k a0_0 l0_1 = some (r1, r2)) : steelyardref06_Neg.R [.agg [.v (.bool a0_0), .l l0_1]] (.agg [.v (.bool r1), .l r2]) := ⟨_, _, _, _, _, rfl, h, rfl⟩
theorem steelyardref06_Neg.J {k : Nat} {a0_0 : Bool} {l0_1 : List Int} {r1 : Bool} {r2 : List Int} (h : steelyardref06_Neg.f k a0_0 l0_1 = some (r1, r2)) {us : List U} (hus : us = [.agg [.v (.bool a0_0), .l l0_1]]) : steelyardref06_Neg.R us (.agg [.v (.bool r1), .l r2]) := ⟨_, _, _, _, _, hus, h, rfl⟩
theorem steelyardref06_Neg.E {β : Type} {k : Nat} {a0_0 : Bool} {l0_1 : List Int} {g : Bool × List Int → Option β} {z : β} {Q : Prop} (h : (steelyardref06_Neg.f k a0_0 l0_1).bind g = some z) (c : ∀ (r1 : Bool) (r2 : List Int), steelyardref06_Neg.f k a0_0 l0_1 = some (r1, r2) → g (r1, r2) = some z → Q) : Q := by
  obtain ⟨p, h1, h2⟩ := Option.bind_eq_some_iff.1 h
  exact c p.1 p.2 h1 h2
set_option maxHeartbeats 4000000 in
set_option maxRecDepth 100000 in
theorem steelyardref06_Neg.body {D : Dat} {C : Orc} (hD : D = real) (h58 : ∀ us u, steelyardref06_Make.R us u → C 58 us u) {us : List U} {u : U} (hR : steelyardref06_Neg.R us u) {Q : Prop} (hQ : body tys D C Try.f85 us u = Q) : Q := by
  obtain ⟨k, a0_0, l0_1, r1, r2, rfl, h, hu⟩ := hR
  obtain ⟨len, add, sub, mul, rem, neg, conv, max, eq, ne, lt, le, nth, zeros, copy, cpd, bor⟩ := D
  simp only [real, Dat.mk.injEq] at hD
  obtain ⟨elen, eadd, esub, emul, erem, eneg, econv, emax, eeq, ene, elt, ele, enth, ezeros, ecopy, ecpd, ebor⟩ := hD
  have hE := And.intro elen (And.intro eadd (And.intro esub (And.intro emul (And.intro erem (And.intro eneg (And.intro econv (And.intro ebor (And.intro emax (And.intro eeq (And.intro ene (And.intro elt ele)))))))))))
  cases a0_0 <;>
  unfold steelyardref06_Neg.f at h <;>
  (repeat' first
    | (simp (maxSteps := 2000000) only [↓reduceIte, Bool.false_eq_true, Bool.not_true, Bool.not_false, reduceCtorEq, b00, b01, b10, b11, n00, n01, n10, n11] at h; done)
    | (simp (maxSteps := 2000000) only [↓reduceIte, Bool.false_eq_true, Bool.not_true, Bool.not_false, Option.bind_some, splice_self, b00, b01, b10, b11, n00, n01, n10, n11] at h)
    | (with_reducible refine steelyardref06_Make.E h ?_; clear h; rintro _ _ _ h)
    | (simp (maxSteps := 2000000) only [↓reduceIte, Bool.false_eq_true, Bool.not_true, Bool.not_false, reduceCtorEq, decide_eq_true_eq, bne_iff_ne, ne_eq, beq_iff_eq, Option.bind_some, splice_self, b00, b01, b10, b11, n00, n01, n10, n11] at h)
    | (with_reducible refine iteE h ?_ ?_ <;> clear h <;> intro _ h)
    | (split at h)) <;>
  (injection h with h) <;>
  (try simp only [Prod.mk.injEq] at h) <;>
  (obtain ⟨rfl, rfl⟩ := h) <;>
  (rw [← hQ]; clear hQ) <;>
  (cbv) <;>
  (repeat first
    | ((with_reducible refine E2 (h58 _ _ (steelyardref06_Make.I ‹_›)) ?_); cbv)
    | ((with_reducible apply E2); (· with_reducible apply h58; simp only [hE, w64, mxE]; exact steelyardref06_Make.I ‹_›); cbv)
    | ((with_reducible refine E2 (h58 _ _ (steelyardref06_Make.J ‹steelyardref06_Make.f _ _ _ = some _› ?_)) ?_); (· simp only [hE, w64, mxE]; try rfl); cbv)
    | (rw [hu]; done)
    | (rw [hu]; simp only [hE, w64]; done)
    | (rw [hu]; simp only [hE, w64]; rfl)
    | (rw [hu]; simp only [hE, w64, Option.some.injEq, U.agg.injEq, U.tup.injEq, U.v.injEq, List.cons.injEq, Value.bool.injEq, and_true, true_and, decide_eq_true_eq, decide_eq_false_iff_not]; first | assumption | omega))
theorem steelyardref06_Neg.sound : SoundF Try.prog 85 steelyardref06_Neg.R :=
  Den.sound (l := [(58, steelyardref06_Make.R)]) (orc_cons steelyardref06_Make.sound (orc_nil)) Try.func85 (by kernel_rfl) (by kernel_rfl) (by decide +kernel) fun _ _ hR => steelyardref06_Neg.body rfl (fun _ _ h => (.inl ⟨rfl, h⟩)) hR rfl
end Go.Proofs.Yticngjjdjmadgaa.PU
end
section
set_option linter.unusedVariables false
set_option linter.unusedSimpArgs false
namespace Go.Proofs.Yticngjjdjmadgaa.PU
open Go Go.RowKit Go.Proofs.YticngjjdjmadgaaW.PrintWords Go.Proofs.YticngjjdjmadgaaW.PrintMore Go.Proofs.Yticngjjdjmadgaa.Den Go.Proofs.Yticngjjdjmadgaa.PL
def steelyardref07_Neg.R (us : List U) (u : U) : Prop := ∃ (k : Nat) (a0_0 : Bool) (l0_1 : List Int) (l0_2 : List Int) (r1 : Bool) (r2 : List Int) (r3 : List Int), us = [.agg [.v (.bool a0_0), .l l0_1, .l l0_2]] ∧ steelyardref07_Neg.f k a0_0 l0_1 l0_2 = some (r1, r2, r3) ∧ u = .agg [.v (.bool r1), .l r2, .l r3]
theorem steelyardref07_Neg.I {k : Nat} {a0_0 : Bool} {l0_1 : List Int} {l0_2 : List Int} {r1 : Bool} {r2 : List Int} {r3 : List Int} (h : steelyardref07_Neg.f k a0_0 l0_1 l0_2 = some (r1, r2, r3)) : steelyardref07_Neg.R [.agg [.v (.bool a0_0), .l l0_1, .l l0_2]] (.agg [.v (.bool r1), .l r2, .l r3]) := ⟨_, _, _, _, _, _, _, rfl, h, rfl⟩
theorem steelyardref07_Neg.J {k : Nat} {a0_0 : Bool} {l0_1 : List Int} {l0_2 : List Int} {r1 : Bool} {r2 : List Int} {r3 : List Int} (h : steelyardref07_Neg.f k a0_0 l0_1 l0_2 = some (r1, r2, r3)) {us : List U} (hus : us = [.agg [.v (.bool a0_0), .l l0_1, .l l0_2]]) : steelyardref07_Neg.R us (.agg [.v (.bool r1), .l r2, .l r3]) := ⟨_, _, _, _, _, _, _, hus, h, rfl⟩
theorem steelyardref07_Neg.E {β : Type} {k : Nat} {a0_0 : Bool} {l0_1 : List Int} {l0_2 : List Int} {g : Bool × List Int × List Int → Option β} {z : β} {Q : Prop} (h : (steelyardref07_Neg.f k a0_0 l0_1 l0_2).bind g = some z) (c : ∀ (r1 : Bool) (r2 : List Int) (r3 : List Int), steelyardref07_Neg.f k a0_0 l0_1 l0_2 = some (r1, r2, r3) → g (r1, r2, r3) = some z → Q) : Q := by
  obtain ⟨p, h1, h2⟩ := Option.bind_eq_some_iff.1 h
  exact c p.1 p.2.1 p.2.2 h1 h2
set_option maxHeartbeats 4000000 in
set_option maxRecDepth 100000 in
theorem steelyardref07_Neg.body {D : Dat} {C : Orc} (hD : D = real) (h22 : ∀ us u, steelyardref07_Good.R us u → C 22 us u) (h79 : ∀ us u, steelyardref01_Trim.R us u → C 79 us u) (h85 : ∀ us u, steelyardref06_Neg.R us u → C 85 us u) {us : List U} {u : U} (hR : steelyardref07_Neg.R us u) {Q : Prop} (hQ : body tys D C Try.f44 us u = Q) : Q := by
  obtain ⟨k, a0_0, l0_1, l0_2, r1, r2, r3, rfl, h, hu⟩ := hR
  obtain ⟨len, add, sub, mul, rem, neg, conv, max, eq, ne, lt, le, nth, zeros, copy, cpd, bor⟩ := D
  simp only [real, Dat.mk.injEq] at hD
  obtain ⟨elen, eadd, esub, emul, erem, eneg, econv, emax, eeq, ene, elt, ele, enth, ezeros, ecopy, ecpd, ebor⟩ := hD
  have hE := And.intro elen (And.intro eadd (And.intro esub (And.intro emul (And.intro erem (And.intro eneg (And.intro econv (And.intro ebor (And.intro emax (And.intro eeq (And.intro ene (And.intro elt ele)))))))))))
  cases a0_0 <;>
  unfold steelyardref07_Neg.f at h <;>
  (repeat' first
    | (simp (maxSteps := 2000000) only [↓reduceIte, Bool.false_eq_true, Bool.not_true, Bool.not_false, reduceCtorEq, b00, b01, b10, b11, n00, n01, n10, n11] at h; done)
    | (simp (maxSteps := 2000000) only [↓reduceIte, Bool.false_eq_true, Bool.not_true, Bool.not_false, Option.bind_some, splice_self, b00, b01, b10, b11, n00, n01, n10, n11] at h)
    | (with_reducible refine steelyardref07_Good.E h ?_; clear h; rintro (_ | _) _ h)
    | (with_reducible refine steelyardref01_Trim.E h ?_; clear h; rintro _ _ h)
    | (with_reducible refine steelyardref06_Neg.E h ?_; clear h; rintro _ _ _ h)
    | (simp (maxSteps := 2000000) only [↓reduceIte, Bool.false_eq_true, Bool.not_true, Bool.not_false, reduceCtorEq, decide_eq_true_eq, bne_iff_ne, ne_eq, beq_iff_eq, Option.bind_some, splice_self, b00, b01, b10, b11, n00, n01, n10, n11] at h)
    | (with_reducible refine iteE h ?_ ?_ <;> clear h <;> intro _ h)
    | (split at h)) <;>
  (injection h with h) <;>
  (try simp only [Prod.mk.injEq] at h) <;>
  (obtain ⟨rfl, rfl, rfl⟩ := h) <;>
  (rw [← hQ]; clear hQ) <;>
  (cbv) <;>
  (repeat first
    | ((with_reducible refine E2 (h22 _ _ (steelyardref07_Good.I ‹_›)) ?_); cbv)
    | ((with_reducible apply E2); (· with_reducible apply h22; simp only [hE, w64, mxE]; exact steelyardref07_Good.I ‹_›); cbv)
    | ((with_reducible refine E2 (h22 _ _ (steelyardref07_Good.J ‹steelyardref07_Good.f _ _ _ _ = some _› ?_)) ?_); (· simp only [hE, w64, mxE]; try rfl); cbv)
    | ((with_reducible refine E2 (h79 _ _ (steelyardref01_Trim.I ‹_›)) ?_); cbv)
    | ((with_reducible apply E2); (· with_reducible apply h79; simp only [hE, w64, mxE]; exact steelyardref01_Trim.I ‹_›); cbv)
    | ((with_reducible refine E2 (h79 _ _ (steelyardref01_Trim.J ‹steelyardref01_Trim.f _ _ = some _› ?_)) ?_); (· simp only [hE, w64, mxE]; try rfl); cbv)
    | ((with_reducible refine E2 (h85 _ _ (steelyardref06_Neg.I ‹_›)) ?_); cbv)
    | ((with_reducible apply E2); (· with_reducible apply h85; simp only [hE, w64, mxE]; exact steelyardref06_Neg.I ‹_›); cbv)
    | ((with_reducible refine E2 (h85 _ _ (steelyardref06_Neg.J ‹steelyardref06_Neg.f _ _ _ = some _› ?_)) ?_); (· simp only [hE, w64, mxE]; try rfl); cbv)
    | ((with_reducible refine t1 ?_ ?_); (· (simp only [hE, w64, decide_eq_true_eq, decide_eq_false_iff_not]; first | assumption | omega)); intro hb_; (try simp only [hb_]); cbv)
    | ((with_reducible refine t2 ?_ ?_); (· (simp only [hE, w64, decide_eq_true_eq, decide_eq_false_iff_not]; first | assumption | omega)); intro hb_; (try simp only [hb_]); cbv)
    | ((with_reducible refine t3 ?_ ?_); (· (simp only [hE, w64, decide_eq_true_eq, decide_eq_false_iff_not]; first | assumption | omega)); intro hb_; (try simp only [hb_]); cbv)
    | ((with_reducible refine t4 ?_ ?_); (· (simp only [hE, w64, decide_eq_true_eq, decide_eq_false_iff_not]; first | assumption | omega)); intro hb_; (try simp only [hb_]); cbv)
    | (rw [hu]; done)
    | (rw [hu]; simp only [hE, w64]; done)
    | (rw [hu]; simp only [hE, w64]; rfl)
    | (rw [hu]; simp only [hE, w64, Option.some.injEq, U.agg.injEq, U.tup.injEq, U.v.injEq, List.cons.injEq, Value.bool.injEq, and_true, true_and, decide_eq_true_eq, decide_eq_false_iff_not]; first | assumption | omega))
theorem steelyardref07_Neg.sound : SoundF Try.prog 44 steelyardref07_Neg.R :=
  Den.sound (l := [(22, steelyardref07_Good.R), (79, steelyardref01_Trim.R), (85, steelyardref06_Neg.R)]) (orc_cons steelyardref07_Good.sound (orc_cons steelyardref01_Trim.sound (orc_cons steelyardref06_Neg.sound (orc_nil)))) Try.func44 (by kernel_rfl) (by kernel_rfl) (by decide +kernel) fun _ _ hR => steelyardref07_Neg.body rfl (fun _ _ h => (.inl ⟨rfl, h⟩)) (fun _ _ h => (.inr (.inl ⟨rfl, h⟩))) (fun _ _ h => (.inr (.inr (.inl ⟨rfl, h⟩)))) hR rfl
end Go.Proofs.Yticngjjdjmadgaa.PU
end
section
set_option linter.unusedVariables false
set_option linter.unusedSimpArgs false
namespace Go.Proofs.Yticngjjdjmadgaa.PU
open Go Go.RowKit Go.Proofs.YticngjjdjmadgaaW.PrintWords Go.Proofs.YticngjjdjmadgaaW.PrintMore Go.Proofs.Yticngjjdjmadgaa.Den Go.Proofs.Yticngjjdjmadgaa.PL
def steelyardref07_Sub.R (us : List U) (u : U) : Prop := ∃ (k : Nat) (a0_0 : Bool) (l0_1 : List Int) (l0_2 : List Int) (a1_0 : Bool) (l1_1 : List Int) (l1_2 : List Int) (r1 : Bool) (r2 : List Int) (r3 : List Int) (r4 : Int), us = [.agg [.v (.bool a0_0), .l l0_1, .l l0_2], .agg [.v (.bool a1_0), .l l1_1, .l l1_2]] ∧ steelyardref07_Sub.f k a0_0 l0_1 l0_2 a1_0 l1_1 l1_2 = some (r1, r2, r3, r4) ∧ u = .agg [.v (.bool r1), .l r2, .l r3, .v (.int .i64 r4)]
theorem steelyardref07_Sub.I {k : Nat} {a0_0 : Bool} {l0_1 : List Int} {l0_2 : List Int} {a1_0 : Bool} {l1_1 : List Int} {l1_2 : List Int} {r1 : Bool} {r2 : List Int} {r3 : List Int} {r4 : Int} (h : steelyardref07_Sub.f k a0_0 l0_1 l0_2 a1_0 l1_1 l1_2 = some (r1, r2, r3, r4)) : steelyardref07_Sub.R [.agg [.v (.bool a0_0), .l l0_1, .l l0_2], .agg [.v (.bool a1_0), .l l1_1, .l l1_2]] (.agg [.v (.bool r1), .l r2, .l r3, .v (.int .i64 r4)]) := ⟨_, _, _, _, _, _, _, _, _, _, _, rfl, h, rfl⟩
set_option maxHeartbeats 4000000 in
set_option maxRecDepth 100000 in
theorem steelyardref07_Sub.body {D : Dat} {C : Orc} (hD : D = real) (h22 : ∀ us u, steelyardref07_Good.R us u → C 22 us u) (h44 : ∀ us u, steelyardref07_Neg.R us u → C 44 us u) (h54 : ∀ us u, steelyardref07_Limit.R us u → C 54 us u) (h81 : ∀ us u, steelyardref07_Plus.R us u → C 81 us u) {us : List U} {u : U} (hR : steelyardref07_Sub.R us u) {Q : Prop} (hQ : body tys D C Try.f37 us u = Q) : Q := by
  obtain ⟨k, a0_0, l0_1, l0_2, a1_0, l1_1, l1_2, r1, r2, r3, r4, rfl, h, hu⟩ := hR
  obtain ⟨len, add, sub, mul, rem, neg, conv, max, eq, ne, lt, le, nth, zeros, copy, cpd, bor⟩ := D
  simp only [real, Dat.mk.injEq] at hD
  obtain ⟨elen, eadd, esub, emul, erem, eneg, econv, emax, eeq, ene, elt, ele, enth, ezeros, ecopy, ecpd, ebor⟩ := hD
  have hE := And.intro elen (And.intro eadd (And.intro esub (And.intro emul (And.intro erem (And.intro eneg (And.intro econv (And.intro ebor (And.intro emax (And.intro eeq (And.intro ene (And.intro elt ele)))))))))))
  cases a0_0 <;>
  cases a1_0 <;>
  unfold steelyardref07_Sub.f at h <;>
  (repeat' first
    | (simp (maxSteps := 2000000) only [↓reduceIte, Bool.false_eq_true, Bool.not_true, Bool.not_false, reduceCtorEq, b00, b01, b10, b11, n00, n01, n10, n11] at h; done)
    | (simp (maxSteps := 2000000) only [↓reduceIte, Bool.false_eq_true, Bool.not_true, Bool.not_false, Option.bind_some, splice_self, b00, b01, b10, b11, n00, n01, n10, n11] at h)
    | (rw [‹steelyardref07_Good.f _ _ _ _ = some _›] at h; simp only [Option.bind_some] at h)
    | (with_reducible refine steelyardref07_Good.E h ?_; clear h; rintro (_ | _) _ h)
    | (with_reducible refine steelyardref07_Neg.E h ?_; clear h; rintro _ _ _ _ h)
    | (with_reducible refine steelyardref07_Limit.E h ?_; clear h; rintro _ _ _ _ _ h)
    | (with_reducible refine steelyardref07_Plus.E h ?_; clear h; rintro _ _ _ _ h)
    | (unfold steelyardref07_Sub.j0 at h)
    | (simp (maxSteps := 2000000) only [↓reduceIte, Bool.false_eq_true, Bool.not_true, Bool.not_false, reduceCtorEq, decide_eq_true_eq, bne_iff_ne, ne_eq, beq_iff_eq, Option.bind_some, splice_self, b00, b01, b10, b11, n00, n01, n10, n11] at h)
    | (with_reducible refine iteE h ?_ ?_ <;> clear h <;> intro _ h)
    | (split at h)) <;>
  (injection h with h) <;>
  (try simp only [Prod.mk.injEq] at h) <;>
  (obtain ⟨rfl, rfl, rfl, rfl⟩ := h) <;>
  (rw [← hQ]; clear hQ) <;>
  (cbv) <;>
  (repeat first
    | ((with_reducible refine E2 (h22 _ _ (steelyardref07_Good.I ‹_›)) ?_); cbv)
    | ((with_reducible apply E2); (· with_reducible apply h22; simp only [hE, w64, mxE]; exact steelyardref07_Good.I ‹_›); cbv)
    | ((with_reducible refine E2 (h22 _ _ (steelyardref07_Good.J ‹steelyardref07_Good.f _ _ _ _ = some _› ?_)) ?_); (· simp only [hE, w64, mxE]; try rfl); cbv)
    | ((with_reducible refine E2 (h44 _ _ (steelyardref07_Neg.I ‹_›)) ?_); cbv)
    | ((with_reducible apply E2); (· with_reducible apply h44; simp only [hE, w64, mxE]; exact steelyardref07_Neg.I ‹_›); cbv)
    | ((with_reducible refine E2 (h44 _ _ (steelyardref07_Neg.J ‹steelyardref07_Neg.f _ _ _ _ = some _› ?_)) ?_); (· simp only [hE, w64, mxE]; try rfl); cbv)
    | ((with_reducible refine E2 (h54 _ _ (steelyardref07_Limit.I ‹_›)) ?_); cbv)
    | ((with_reducible apply E2); (· with_reducible apply h54; simp only [hE, w64, mxE]; exact steelyardref07_Limit.I ‹_›); cbv)
    | ((with_reducible refine E2 (h54 _ _ (steelyardref07_Limit.J ‹steelyardref07_Limit.f _ _ _ = some _› ?_)) ?_); (· simp only [hE, w64, mxE]; try rfl); cbv)
    | ((with_reducible refine E2 (h81 _ _ (steelyardref07_Plus.I ‹_›)) ?_); cbv)
    | ((with_reducible apply E2); (· with_reducible apply h81; simp only [hE, w64, mxE]; exact steelyardref07_Plus.I ‹_›); cbv)
    | ((with_reducible refine E2 (h81 _ _ (steelyardref07_Plus.J ‹steelyardref07_Plus.f _ _ _ _ _ _ _ = some _› ?_)) ?_); (· simp only [hE, w64, mxE]; try rfl); cbv)
    | ((with_reducible refine t1 ?_ ?_); (· (simp only [hE, w64, decide_eq_true_eq, decide_eq_false_iff_not]; first | assumption | omega)); intro hb_; (try simp only [hb_]); cbv)
    | ((with_reducible refine t2 ?_ ?_); (· (simp only [hE, w64, decide_eq_true_eq, decide_eq_false_iff_not]; first | assumption | omega)); intro hb_; (try simp only [hb_]); cbv)
    | ((with_reducible refine t3 ?_ ?_); (· (simp only [hE, w64, decide_eq_true_eq, decide_eq_false_iff_not]; first | assumption | omega)); intro hb_; (try simp only [hb_]); cbv)
    | ((with_reducible refine t4 ?_ ?_); (· (simp only [hE, w64, decide_eq_true_eq, decide_eq_false_iff_not]; first | assumption | omega)); intro hb_; (try simp only [hb_]); cbv)
    | (rw [hu]; done)
    | (rw [hu]; simp only [hE, w64]; done)
    | (rw [hu]; simp only [hE, w64]; rfl)
    | (rw [hu]; simp only [hE, w64, Option.some.injEq, U.agg.injEq, U.tup.injEq, U.v.injEq, List.cons.injEq, Value.bool.injEq, and_true, true_and, decide_eq_true_eq, decide_eq_false_iff_not]; first | assumption | omega))
theorem steelyardref07_Sub.sound : SoundF Try.prog 37 steelyardref07_Sub.R :=
  Den.sound (l := [(22, steelyardref07_Good.R), (44, steelyardref07_Neg.R), (54, steelyardref07_Limit.R), (81, steelyardref07_Plus.R)]) (orc_cons steelyardref07_Good.sound (orc_cons steelyardref07_Neg.sound (orc_cons steelyardref07_Limit.sound (orc_cons steelyardref07_Plus.sound (orc_nil))))) Try.func37 (by kernel_rfl) (by kernel_rfl) (by decide +kernel) fun _ _ hR => steelyardref07_Sub.body rfl (fun _ _ h => (.inl ⟨rfl, h⟩)) (fun _ _ h => (.inr (.inl ⟨rfl, h⟩))) (fun _ _ h => (.inr (.inr (.inl ⟨rfl, h⟩)))) (fun _ _ h => (.inr (.inr (.inr (.inl ⟨rfl, h⟩))))) hR rfl
end Go.Proofs.Yticngjjdjmadgaa.PU
end
section
set_option linter.unusedVariables false
set_option linter.unusedSimpArgs false
namespace Go.Proofs.Yticngjjdjmadgaa.PU
open Go Go.RowKit Go.Proofs.YticngjjdjmadgaaW.PrintWords Go.Proofs.YticngjjdjmadgaaW.PrintMore Go.Proofs.Yticngjjdjmadgaa.Den Go.Proofs.Yticngjjdjmadgaa.PL
def steelyardref07_Mul.R (us : List U) (u : U) : Prop := ∃ (k : Nat) (a0_0 : Bool) (l0_1 : List Int) (l0_2 : List Int) (a1_0 : Bool) (l1_1 : List Int) (l1_2 : List Int) (r1 : Bool) (r2 : List Int) (r3 : List Int) (r4 : Int), us = [.agg [.v (.bool a0_0), .l l0_1, .l l0_2], .agg [.v (.bool a1_0), .l l1_1, .l l1_2]] ∧ steelyardref07_Mul.f k a0_0 l0_1 l0_2 a1_0 l1_1 l1_2 = some (r1, r2, r3, r4) ∧ u = .agg [.v (.bool r1), .l r2, .l r3, .v (.int .i64 r4)]
theorem steelyardref07_Mul.I {k : Nat} {a0_0 : Bool} {l0_1 : List Int} {l0_2 : List Int} {a1_0 : Bool} {l1_1 : List Int} {l1_2 : List Int} {r1 : Bool} {r2 : List Int} {r3 : List Int} {r4 : Int} (h : steelyardref07_Mul.f k a0_0 l0_1 l0_2 a1_0 l1_1 l1_2 = some (r1, r2, r3, r4)) : steelyardref07_Mul.R [.agg [.v (.bool a0_0), .l l0_1, .l l0_2], .agg [.v (.bool a1_0), .l l1_1, .l l1_2]] (.agg [.v (.bool r1), .l r2, .l r3, .v (.int .i64 r4)]) := ⟨_, _, _, _, _, _, _, _, _, _, _, rfl, h, rfl⟩
set_option maxHeartbeats 4000000 in
set_option maxRecDepth 100000 in
theorem steelyardref07_Mul.body {D : Dat} {C : Orc} (hD : D = real) (h22 : ∀ us u, steelyardref07_Good.R us u → C 22 us u) (h54 : ∀ us u, steelyardref07_Limit.R us u → C 54 us u) (h82 : ∀ us u, steelyardref07_Times.R us u → C 82 us u) {us : List U} {u : U} (hR : steelyardref07_Mul.R us u) {Q : Prop} (hQ : body tys D C Try.f38 us u = Q) : Q := by
  obtain ⟨k, a0_0, l0_1, l0_2, a1_0, l1_1, l1_2, r1, r2, r3, r4, rfl, h, hu⟩ := hR
  obtain ⟨len, add, sub, mul, rem, neg, conv, max, eq, ne, lt, le, nth, zeros, copy, cpd, bor⟩ := D
  simp only [real, Dat.mk.injEq] at hD
  obtain ⟨elen, eadd, esub, emul, erem, eneg, econv, emax, eeq, ene, elt, ele, enth, ezeros, ecopy, ecpd, ebor⟩ := hD
  have hE := And.intro elen (And.intro eadd (And.intro esub (And.intro emul (And.intro erem (And.intro eneg (And.intro econv (And.intro ebor (And.intro emax (And.intro eeq (And.intro ene (And.intro elt ele)))))))))))
  cases a0_0 <;>
  cases a1_0 <;>
  unfold steelyardref07_Mul.f at h <;>
  (repeat' first
    | (simp (maxSteps := 2000000) only [↓reduceIte, Bool.false_eq_true, Bool.not_true, Bool.not_false, reduceCtorEq, b00, b01, b10, b11, n00, n01, n10, n11] at h; done)
    | (simp (maxSteps := 2000000) only [↓reduceIte, Bool.false_eq_true, Bool.not_true, Bool.not_false, Option.bind_some, splice_self, b00, b01, b10, b11, n00, n01, n10, n11] at h)
    | (rw [‹steelyardref07_Good.f _ _ _ _ = some _›] at h; simp only [Option.bind_some] at h)
    | (with_reducible refine steelyardref07_Good.E h ?_; clear h; rintro (_ | _) _ h)
    | (with_reducible refine steelyardref07_Limit.E h ?_; clear h; rintro _ _ _ _ _ h)
    | (with_reducible refine steelyardref07_Times.E h ?_; clear h; rintro _ _ _ _ h)
    | (unfold steelyardref07_Mul.j0 at h)
    | (simp (maxSteps := 2000000) only [↓reduceIte, Bool.false_eq_true, Bool.not_true, Bool.not_false, reduceCtorEq, decide_eq_true_eq, bne_iff_ne, ne_eq, beq_iff_eq, Option.bind_some, splice_self, b00, b01, b10, b11, n00, n01, n10, n11] at h)
    | (with_reducible refine iteE h ?_ ?_ <;> clear h <;> intro _ h)
    | (split at h)) <;>
  (injection h with h) <;>
  (try simp only [Prod.mk.injEq] at h) <;>
  (obtain ⟨rfl, rfl, rfl, rfl⟩ := h) <;>
  (rw [← hQ]; clear hQ) <;>
  (cbv) <;>
  (repeat first
    | ((with_reducible refine E2 (h22 _ _ (steelyardref07_Good.I ‹_›)) ?_); cbv)
    | ((with_reducible apply E2); (· with_reducible apply h22; simp only [hE, w64, mxE]; exact steelyardref07_Good.I ‹_›); cbv)
    | ((with_reducible refine E2 (h22 _ _ (steelyardref07_Good.J ‹steelyardref07_Good.f _ _ _ _ = some _› ?_)) ?_); (· simp only [hE, w64, mxE]; try rfl); cbv)
    | ((with_reducible refine E2 (h54 _ _ (steelyardref07_Limit.I ‹_›)) ?_); cbv)
    | ((with_reducible apply E2); (· with_reducible apply h54; simp only [hE, w64, mxE]; exact steelyardref07_Limit.I ‹_›); cbv)
    | ((with_reducible refine E2 (h54 _ _ (steelyardref07_Limit.J ‹steelyardref07_Limit.f _ _ _ = some _› ?_)) ?_); (· simp only [hE, w64, mxE]; try rfl); cbv)
    | ((with_reducible refine E2 (h82 _ _ (steelyardref07_Times.I ‹_›)) ?_); cbv)
    | ((with_reducible apply E2); (· with_reducible apply h82; simp only [hE, w64, mxE]; exact steelyardref07_Times.I ‹_›); cbv)
    | ((with_reducible refine E2 (h82 _ _ (steelyardref07_Times.J ‹steelyardref07_Times.f _ _ _ _ _ _ _ = some _› ?_)) ?_); (· simp only [hE, w64, mxE]; try rfl); cbv)
    | ((with_reducible refine t1 ?_ ?_); (· (simp only [hE, w64, decide_eq_true_eq, decide_eq_false_iff_not]; first | assumption | omega)); intro hb_; (try simp only [hb_]); cbv)
    | ((with_reducible refine t2 ?_ ?_); (· (simp only [hE, w64, decide_eq_true_eq, decide_eq_false_iff_not]; first | assumption | omega)); intro hb_; (try simp only [hb_]); cbv)
    | ((with_reducible refine t3 ?_ ?_); (· (simp only [hE, w64, decide_eq_true_eq, decide_eq_false_iff_not]; first | assumption | omega)); intro hb_; (try simp only [hb_]); cbv)
    | ((with_reducible refine t4 ?_ ?_); (· (simp only [hE, w64, decide_eq_true_eq, decide_eq_false_iff_not]; first | assumption | omega)); intro hb_; (try simp only [hb_]); cbv)
    | (rw [hu]; done)
    | (rw [hu]; simp only [hE, w64]; done)
    | (rw [hu]; simp only [hE, w64]; rfl)
    | (rw [hu]; simp only [hE, w64, Option.some.injEq, U.agg.injEq, U.tup.injEq, U.v.injEq, List.cons.injEq, Value.bool.injEq, and_true, true_and, decide_eq_true_eq, decide_eq_false_iff_not]; first | assumption | omega))
theorem steelyardref07_Mul.sound : SoundF Try.prog 38 steelyardref07_Mul.R :=
  Den.sound (l := [(22, steelyardref07_Good.R), (54, steelyardref07_Limit.R), (82, steelyardref07_Times.R)]) (orc_cons steelyardref07_Good.sound (orc_cons steelyardref07_Limit.sound (orc_cons steelyardref07_Times.sound (orc_nil)))) Try.func38 (by kernel_rfl) (by kernel_rfl) (by decide +kernel) fun _ _ hR => steelyardref07_Mul.body rfl (fun _ _ h => (.inl ⟨rfl, h⟩)) (fun _ _ h => (.inr (.inl ⟨rfl, h⟩))) (fun _ _ h => (.inr (.inr (.inl ⟨rfl, h⟩)))) hR rfl
end Go.Proofs.Yticngjjdjmadgaa.PU
end
section
set_option linter.unusedVariables false
set_option linter.unusedSimpArgs false
namespace Go.Proofs.Yticngjjdjmadgaa.PU
open Go Go.RowKit Go.Proofs.YticngjjdjmadgaaW.PrintWords Go.Proofs.YticngjjdjmadgaaW.PrintMore Go.Proofs.Yticngjjdjmadgaa.Den Go.Proofs.Yticngjjdjmadgaa.PL
def steelyardref06_Cmp.R (us : List U) (u : U) : Prop := ∃ (k : Nat) (a0_0 : Bool) (l0_1 : List Int) (a1_0 : Bool) (l1_1 : List Int) (r : Int), us = [.agg [.v (.bool a0_0), .l l0_1], .agg [.v (.bool a1_0), .l l1_1]] ∧ steelyardref06_Cmp.f k a0_0 l0_1 a1_0 l1_1 = some r ∧ u = .v (.int .i64 r)
theorem steelyardref06_Cmp.I {k : Nat} {a0_0 : Bool} {l0_1 : List Int} {a1_0 : Bool} {l1_1 : List Int} {r : Int} (h : steelyardref06_Cmp.f k a0_0 l0_1 a1_0 l1_1 = some r) : steelyardref06_Cmp.R [.agg [.v (.bool a0_0), .l l0_1], .agg [.v (.bool a1_0), .l l1_1]] (.v (.int .i64 r)) := ⟨_, _, _, _, _, _, rfl, h, rfl⟩
theorem steelyardref06_Cmp.J {k : Nat} {a0_0 : Bool} {l0_1 : List Int} {a1_0 : Bool} {l1_1 : List Int} {r : Int} (h : steelyardref06_Cmp.f k a0_0 l0_1 a1_0 l1_1 = some r) {us : List U} (hus : us = [.agg [.v (.bool a0_0), .l l0_1], .agg [.v (.bool a1_0), .l l1_1]]) : steelyardref06_Cmp.R us (.v (.int .i64 r)) := ⟨_, _, _, _, _, _, hus, h, rfl⟩
theorem steelyardref06_Cmp.E {β : Type} {k : Nat} {a0_0 : Bool} {l0_1 : List Int} {a1_0 : Bool} {l1_1 : List Int} {g : Int → Option β} {z : β} {Q : Prop} (h : (steelyardref06_Cmp.f k a0_0 l0_1 a1_0 l1_1).bind g = some z) (c : ∀ (r : Int), steelyardref06_Cmp.f k a0_0 l0_1 a1_0 l1_1 = some r → g r = some z → Q) : Q := by
  obtain ⟨p, h1, h2⟩ := Option.bind_eq_some_iff.1 h
  exact c p h1 h2
set_option maxHeartbeats 4000000 in
set_option maxRecDepth 100000 in
theorem steelyardref06_Cmp.body {D : Dat} {C : Orc} (hD : D = real) (h90 : ∀ us u, steelyardref06_Trim.R us u → C 90 us u) (h109 : ∀ us u, steelyardref01_Cmp.R us u → C 109 us u) {us : List U} {u : U} (hR : steelyardref06_Cmp.R us u) {Q : Prop} (hQ : body tys D C Try.f106 us u = Q) : Q := by
  obtain ⟨k, a0_0, l0_1, a1_0, l1_1, r, rfl, h, hu⟩ := hR
  obtain ⟨len, add, sub, mul, rem, neg, conv, max, eq, ne, lt, le, nth, zeros, copy, cpd, bor⟩ := D
  simp only [real, Dat.mk.injEq] at hD
  obtain ⟨elen, eadd, esub, emul, erem, eneg, econv, emax, eeq, ene, elt, ele, enth, ezeros, ecopy, ecpd, ebor⟩ := hD
  have hE := And.intro elen (And.intro eadd (And.intro esub (And.intro emul (And.intro erem (And.intro eneg (And.intro econv (And.intro ebor (And.intro emax (And.intro eeq (And.intro ene (And.intro elt ele)))))))))))
  cases a0_0 <;>
  cases a1_0 <;>
  unfold steelyardref06_Cmp.f at h <;>
  (repeat' first
    | (simp (maxSteps := 2000000) only [↓reduceIte, Bool.false_eq_true, Bool.not_true, Bool.not_false, reduceCtorEq, b00, b01, b10, b11, n00, n01, n10, n11] at h; done)
    | (simp (maxSteps := 2000000) only [↓reduceIte, Bool.false_eq_true, Bool.not_true, Bool.not_false, Option.bind_some, splice_self, b00, b01, b10, b11, n00, n01, n10, n11] at h)
    | (rw [‹steelyardref06_Trim.f _ _ _ = some _›] at h; simp only [Option.bind_some] at h)
    | (with_reducible refine steelyardref06_Trim.E h ?_; clear h; rintro (_ | _) _ _ h)
    | (rw [‹steelyardref01_Cmp.f _ _ _ = some _›] at h; simp only [Option.bind_some] at h)
    | (with_reducible refine steelyardref01_Cmp.E h ?_; clear h; rintro _ _ h)
    | (unfold steelyardref06_Cmp.j0 at h)
    | (unfold steelyardref06_Cmp.j1 at h)
    | (simp (maxSteps := 2000000) only [↓reduceIte, Bool.false_eq_true, Bool.not_true, Bool.not_false, reduceCtorEq, decide_eq_true_eq, bne_iff_ne, ne_eq, beq_iff_eq, Option.bind_some, splice_self, b00, b01, b10, b11, n00, n01, n10, n11] at h)
    | (with_reducible refine iteE h ?_ ?_ <;> clear h <;> intro _ h)
    | (split at h)) <;>
  (injection h with h) <;>
  (try simp only [Prod.mk.injEq] at h) <;>
  (subst h) <;>
  (rw [← hQ]; clear hQ) <;>
  (cbv) <;>
  (repeat first
    | ((with_reducible refine E2 (h90 _ _ (steelyardref06_Trim.I ‹_›)) ?_); cbv)
    | ((with_reducible apply E2); (· with_reducible apply h90; simp only [hE, w64, mxE]; exact steelyardref06_Trim.I ‹_›); cbv)
    | ((with_reducible refine E2 (h90 _ _ (steelyardref06_Trim.J ‹steelyardref06_Trim.f _ _ _ = some _› ?_)) ?_); (· simp only [hE, w64, mxE]; try rfl); cbv)
    | ((with_reducible refine E2 (h109 _ _ (steelyardref01_Cmp.I ‹_›)) ?_); cbv)
    | ((with_reducible apply E2); (· with_reducible apply h109; simp only [hE, w64, mxE]; exact steelyardref01_Cmp.I ‹_›); cbv)
    | ((with_reducible refine E2 (h109 _ _ (steelyardref01_Cmp.J ‹steelyardref01_Cmp.f _ _ _ = some _› ?_)) ?_); (· simp only [hE, w64, mxE]; try rfl); cbv)
    | ((with_reducible refine t1 ?_ ?_); (· (simp only [hE, w64, decide_eq_true_eq, decide_eq_false_iff_not]; first | assumption | omega)); intro hb_; (try simp only [hb_]); cbv)
    | ((with_reducible refine t2 ?_ ?_); (· (simp only [hE, w64, decide_eq_true_eq, decide_eq_false_iff_not]; first | assumption | omega)); intro hb_; (try simp only [hb_]); cbv)
    | ((with_reducible refine t3 ?_ ?_); (· (simp only [hE, w64, decide_eq_true_eq, decide_eq_false_iff_not]; first | assumption | omega)); intro hb_; (try simp only [hb_]); cbv)
    | ((with_reducible refine t4 ?_ ?_); (· (simp only [hE, w64, decide_eq_true_eq, decide_eq_false_iff_not]; first | assumption | omega)); intro hb_; (try simp only [hb_]); cbv)
    | (rw [hu]; done)
    | (rw [hu]; simp only [hE, w64]; done)
    | (rw [hu]; simp only [hE, w64]; rfl)
    | (rw [hu]; simp only [hE, w64, Option.some.injEq, U.agg.injEq, U.tup.injEq, U.v.injEq, List.cons.injEq, Value.bool.injEq, and_true, true_and, decide_eq_true_eq, decide_eq_false_iff_not]; first | assumption | omega))
theorem steelyardref06_Cmp.sound : SoundF Try.prog 106 steelyardref06_Cmp.R :=
  Den.sound (l := [(90, steelyardref06_Trim.R), (109, steelyardref01_Cmp.R)]) (orc_cons steelyardref06_Trim.sound (orc_cons steelyardref01_Cmp.sound (orc_nil))) Try.func106 (by kernel_rfl) (by kernel_rfl) (by decide +kernel) fun _ _ hR => steelyardref06_Cmp.body rfl (fun _ _ h => (.inl ⟨rfl, h⟩)) (fun _ _ h => (.inr (.inl ⟨rfl, h⟩))) hR rfl
end Go.Proofs.Yticngjjdjmadgaa.PU
end
section
set_option linter.unusedVariables false
set_option linter.unusedSimpArgs false
namespace Go.Proofs.Yticngjjdjmadgaa.PU
open Go Go.RowKit Go.Proofs.YticngjjdjmadgaaW.PrintWords Go.Proofs.YticngjjdjmadgaaW.PrintMore Go.Proofs.Yticngjjdjmadgaa.Den Go.Proofs.Yticngjjdjmadgaa.PL
def steelyardref07_Less.R (us : List U) (u : U) : Prop := ∃ (k : Nat) (a0_0 : Bool) (l0_1 : List Int) (l0_2 : List Int) (a1_0 : Bool) (l1_1 : List Int) (l1_2 : List Int) (r : Int), us = [.agg [.v (.bool a0_0), .l l0_1, .l l0_2], .agg [.v (.bool a1_0), .l l1_1, .l l1_2]] ∧ steelyardref07_Less.f k a0_0 l0_1 l0_2 a1_0 l1_1 l1_2 = some r ∧ u = .v (.int .i64 r)
theorem steelyardref07_Less.I {k : Nat} {a0_0 : Bool} {l0_1 : List Int} {l0_2 : List Int} {a1_0 : Bool} {l1_1 : List Int} {l1_2 : List Int} {r : Int} (h : steelyardref07_Less.f k a0_0 l0_1 l0_2 a1_0 l1_1 l1_2 = some r) : steelyardref07_Less.R [.agg [.v (.bool a0_0), .l l0_1, .l l0_2], .agg [.v (.bool a1_0), .l l1_1, .l l1_2]] (.v (.int .i64 r)) := ⟨_, _, _, _, _, _, _, _, rfl, h, rfl⟩
theorem steelyardref07_Less.J {k : Nat} {a0_0 : Bool} {l0_1 : List Int} {l0_2 : List Int} {a1_0 : Bool} {l1_1 : List Int} {l1_2 : List Int} {r : Int} (h : steelyardref07_Less.f k a0_0 l0_1 l0_2 a1_0 l1_1 l1_2 = some r) {us : List U} (hus : us = [.agg [.v (.bool a0_0), .l l0_1, .l l0_2], .agg [.v (.bool a1_0), .l l1_1, .l l1_2]]) : steelyardref07_Less.R us (.v (.int .i64 r)) := ⟨_, _, _, _, _, _, _, _, hus, h, rfl⟩
theorem steelyardref07_Less.E {β : Type} {k : Nat} {a0_0 : Bool} {l0_1 : List Int} {l0_2 : List Int} {a1_0 : Bool} {l1_1 : List Int} {l1_2 : List Int} {g : Int → Option β} {z : β} {Q : Prop} (h : (steelyardref07_Less.f k a0_0 l0_1 l0_2 a1_0 l1_1 l1_2).bind g = some z) (c : ∀ (r : Int), steelyardref07_Less.f k a0_0 l0_1 l0_2 a1_0 l1_1 l1_2 = some r → g r = some z → Q) : Q := by
  obtain ⟨p, h1, h2⟩ := Option.bind_eq_some_iff.1 h
  exact c p h1 h2
set_option maxHeartbeats 4000000 in
set_option maxRecDepth 100000 in
theorem steelyardref07_Less.body {D : Dat} {C : Orc} (hD : D = real) (h57 : ∀ us u, steelyardref06_Mul.R us u → C 57 us u) (h105 : ∀ us u, steelyardref07_pos.R us u → C 105 us u) (h106 : ∀ us u, steelyardref06_Cmp.R us u → C 106 us u) {us : List U} {u : U} (hR : steelyardref07_Less.R us u) {Q : Prop} (hQ : body tys D C Try.f83 us u = Q) : Q := by
  obtain ⟨k, a0_0, l0_1, l0_2, a1_0, l1_1, l1_2, r, rfl, h, hu⟩ := hR
  obtain ⟨len, add, sub, mul, rem, neg, conv, max, eq, ne, lt, le, nth, zeros, copy, cpd, bor⟩ := D
  simp only [real, Dat.mk.injEq] at hD
  obtain ⟨elen, eadd, esub, emul, erem, eneg, econv, emax, eeq, ene, elt, ele, enth, ezeros, ecopy, ecpd, ebor⟩ := hD
  have hE := And.intro elen (And.intro eadd (And.intro esub (And.intro emul (And.intro erem (And.intro eneg (And.intro econv (And.intro ebor (And.intro emax (And.intro eeq (And.intro ene (And.intro elt ele)))))))))))
  cases a0_0 <;>
  cases a1_0 <;>
  unfold steelyardref07_Less.f at h <;>
  (repeat' first
    | (simp (maxSteps := 2000000) only [↓reduceIte, Bool.false_eq_true, Bool.not_true, Bool.not_false, reduceCtorEq, b00, b01, b10, b11, n00, n01, n10, n11] at h; done)
    | (simp (maxSteps := 2000000) only [↓reduceIte, Bool.false_eq_true, Bool.not_true, Bool.not_false, Option.bind_some, splice_self, b00, b01, b10, b11, n00, n01, n10, n11] at h)
    | (rw [‹steelyardref06_Mul.f _ _ _ _ _ = some _›] at h; simp only [Option.bind_some] at h)
    | (with_reducible refine steelyardref06_Mul.E h ?_; clear h; rintro _ _ _ h)
    | (rw [‹steelyardref07_pos.f _ _ = some _›] at h; simp only [Option.bind_some] at h)
    | (with_reducible refine steelyardref07_pos.E h ?_; clear h; rintro _ _ _ h)
    | (with_reducible refine steelyardref06_Cmp.E h ?_; clear h; rintro _ _ h)
    | (simp (maxSteps := 2000000) only [↓reduceIte, Bool.false_eq_true, Bool.not_true, Bool.not_false, reduceCtorEq, decide_eq_true_eq, bne_iff_ne, ne_eq, beq_iff_eq, Option.bind_some, splice_self, b00, b01, b10, b11, n00, n01, n10, n11] at h)
    | (with_reducible refine iteE h ?_ ?_ <;> clear h <;> intro _ h)
    | (split at h)) <;>
  (injection h with h) <;>
  (try simp only [Prod.mk.injEq] at h) <;>
  (subst h) <;>
  (rw [← hQ]; clear hQ) <;>
  (cbv) <;>
  (repeat first
    | ((with_reducible refine E2 (h57 _ _ (steelyardref06_Mul.I ‹_›)) ?_); cbv)
    | ((with_reducible apply E2); (· with_reducible apply h57; simp only [hE, w64, mxE]; exact steelyardref06_Mul.I ‹_›); cbv)
    | ((with_reducible refine E2 (h57 _ _ (steelyardref06_Mul.J ‹steelyardref06_Mul.f _ _ _ _ _ = some _› ?_)) ?_); (· simp only [hE, w64, mxE]; try rfl); cbv)
    | ((with_reducible refine E2 (h105 _ _ (steelyardref07_pos.I ‹_›)) ?_); cbv)
    | ((with_reducible apply E2); (· with_reducible apply h105; simp only [hE, w64, mxE]; exact steelyardref07_pos.I ‹_›); cbv)
    | ((with_reducible refine E2 (h105 _ _ (steelyardref07_pos.J ‹steelyardref07_pos.f _ _ = some _› ?_)) ?_); (· simp only [hE, w64, mxE]; try rfl); cbv)
    | ((with_reducible refine E2 (h106 _ _ (steelyardref06_Cmp.I ‹_›)) ?_); cbv)
    | ((with_reducible apply E2); (· with_reducible apply h106; simp only [hE, w64, mxE]; exact steelyardref06_Cmp.I ‹_›); cbv)
    | ((with_reducible refine E2 (h106 _ _ (steelyardref06_Cmp.J ‹steelyardref06_Cmp.f _ _ _ _ _ = some _› ?_)) ?_); (· simp only [hE, w64, mxE]; try rfl); cbv)
    | (rw [hu]; done)
    | (rw [hu]; simp only [hE, w64]; done)
    | (rw [hu]; simp only [hE, w64]; rfl)
    | (rw [hu]; simp only [hE, w64, Option.some.injEq, U.agg.injEq, U.tup.injEq, U.v.injEq, List.cons.injEq, Value.bool.injEq, and_true, true_and, decide_eq_true_eq, decide_eq_false_iff_not]; first | assumption | omega))
theorem steelyardref07_Less.sound : SoundF Try.prog 83 steelyardref07_Less.R :=
  Den.sound (l := [(57, steelyardref06_Mul.R), (105, steelyardref07_pos.R), (106, steelyardref06_Cmp.R)]) (orc_cons steelyardref06_Mul.sound (orc_cons steelyardref07_pos.sound (orc_cons steelyardref06_Cmp.sound (orc_nil)))) Try.func83 (by kernel_rfl) (by kernel_rfl) (by decide +kernel) fun _ _ hR => steelyardref07_Less.body rfl (fun _ _ h => (.inl ⟨rfl, h⟩)) (fun _ _ h => (.inr (.inl ⟨rfl, h⟩))) (fun _ _ h => (.inr (.inr (.inl ⟨rfl, h⟩)))) hR rfl
end Go.Proofs.Yticngjjdjmadgaa.PU
end
section
set_option linter.unusedVariables false
set_option linter.unusedSimpArgs false
namespace Go.Proofs.Yticngjjdjmadgaa.PU
open Go Go.RowKit Go.Proofs.YticngjjdjmadgaaW.PrintWords Go.Proofs.YticngjjdjmadgaaW.PrintMore Go.Proofs.Yticngjjdjmadgaa.Den Go.Proofs.Yticngjjdjmadgaa.PL
def steelyardref07_Cmp.R (us : List U) (u : U) : Prop := ∃ (k : Nat) (a0_0 : Bool) (l0_1 : List Int) (l0_2 : List Int) (a1_0 : Bool) (l1_1 : List Int) (l1_2 : List Int) (r : Int), us = [.agg [.v (.bool a0_0), .l l0_1, .l l0_2], .agg [.v (.bool a1_0), .l l1_1, .l l1_2]] ∧ steelyardref07_Cmp.f k a0_0 l0_1 l0_2 a1_0 l1_1 l1_2 = some r ∧ u = .v (.int .i64 r)
theorem steelyardref07_Cmp.I {k : Nat} {a0_0 : Bool} {l0_1 : List Int} {l0_2 : List Int} {a1_0 : Bool} {l1_1 : List Int} {l1_2 : List Int} {r : Int} (h : steelyardref07_Cmp.f k a0_0 l0_1 l0_2 a1_0 l1_1 l1_2 = some r) : steelyardref07_Cmp.R [.agg [.v (.bool a0_0), .l l0_1, .l l0_2], .agg [.v (.bool a1_0), .l l1_1, .l l1_2]] (.v (.int .i64 r)) := ⟨_, _, _, _, _, _, _, _, rfl, h, rfl⟩
theorem steelyardref07_Cmp.J {k : Nat} {a0_0 : Bool} {l0_1 : List Int} {l0_2 : List Int} {a1_0 : Bool} {l1_1 : List Int} {l1_2 : List Int} {r : Int} (h : steelyardref07_Cmp.f k a0_0 l0_1 l0_2 a1_0 l1_1 l1_2 = some r) {us : List U} (hus : us = [.agg [.v (.bool a0_0), .l l0_1, .l l0_2], .agg [.v (.bool a1_0), .l l1_1, .l l1_2]]) : steelyardref07_Cmp.R us (.v (.int .i64 r)) := ⟨_, _, _, _, _, _, _, _, hus, h, rfl⟩
theorem steelyardref07_Cmp.E {β : Type} {k : Nat} {a0_0 : Bool} {l0_1 : List Int} {l0_2 : List Int} {a1_0 : Bool} {l1_1 : List Int} {l1_2 : List Int} {g : Int → Option β} {z : β} {Q : Prop} (h : (steelyardref07_Cmp.f k a0_0 l0_1 l0_2 a1_0 l1_1 l1_2).bind g = some z) (c : ∀ (r : Int), steelyardref07_Cmp.f k a0_0 l0_1 l0_2 a1_0 l1_1 l1_2 = some r → g r = some z → Q) : Q := by
  obtain ⟨p, h1, h2⟩ := Option.bind_eq_some_iff.1 h
  exact c p h1 h2
set_option maxHeartbeats 4000000 in
set_option maxRecDepth 100000 in
theorem steelyardref07_Cmp.body {D : Dat} {C : Orc} (hD : D = real) (h22 : ∀ us u, steelyardref07_Good.R us u → C 22 us u) (h83 : ∀ us u, steelyardref07_Less.R us u → C 83 us u) {us : List U} {u : U} (hR : steelyardref07_Cmp.R us u) {Q : Prop} (hQ : body tys D C Try.f40 us u = Q) : Q := by
  obtain ⟨k, a0_0, l0_1, l0_2, a1_0, l1_1, l1_2, r, rfl, h, hu⟩ := hR
  obtain ⟨len, add, sub, mul, rem, neg, conv, max, eq, ne, lt, le, nth, zeros, copy, cpd, bor⟩ := D
  simp only [real, Dat.mk.injEq] at hD
  obtain ⟨elen, eadd, esub, emul, erem, eneg, econv, emax, eeq, ene, elt, ele, enth, ezeros, ecopy, ecpd, ebor⟩ := hD
  have hE := And.intro elen (And.intro eadd (And.intro esub (And.intro emul (And.intro erem (And.intro eneg (And.intro econv (And.intro ebor (And.intro emax (And.intro eeq (And.intro ene (And.intro elt ele)))))))))))
  cases a0_0 <;>
  cases a1_0 <;>
  unfold steelyardref07_Cmp.f at h <;>
  (repeat' first
    | (simp (maxSteps := 2000000) only [↓reduceIte, Bool.false_eq_true, Bool.not_true, Bool.not_false, reduceCtorEq, b00, b01, b10, b11, n00, n01, n10, n11] at h; done)
    | (simp (maxSteps := 2000000) only [↓reduceIte, Bool.false_eq_true, Bool.not_true, Bool.not_false, Option.bind_some, splice_self, b00, b01, b10, b11, n00, n01, n10, n11] at h)
    | (rw [‹steelyardref07_Good.f _ _ _ _ = some _›] at h; simp only [Option.bind_some] at h)
    | (with_reducible refine steelyardref07_Good.E h ?_; clear h; rintro (_ | _) _ h)
    | (with_reducible refine steelyardref07_Less.E h ?_; clear h; rintro _ _ h)
    | (simp (maxSteps := 2000000) only [↓reduceIte, Bool.false_eq_true, Bool.not_true, Bool.not_false, reduceCtorEq, decide_eq_true_eq, bne_iff_ne, ne_eq, beq_iff_eq, Option.bind_some, splice_self, b00, b01, b10, b11, n00, n01, n10, n11] at h)
    | (with_reducible refine iteE h ?_ ?_ <;> clear h <;> intro _ h)
    | (split at h)) <;>
  (injection h with h) <;>
  (try simp only [Prod.mk.injEq] at h) <;>
  (subst h) <;>
  (rw [← hQ]; clear hQ) <;>
  (cbv) <;>
  (repeat first
    | ((with_reducible refine E2 (h22 _ _ (steelyardref07_Good.I ‹_›)) ?_); cbv)
    | ((with_reducible apply E2); (· with_reducible apply h22; simp only [hE, w64, mxE]; exact steelyardref07_Good.I ‹_›); cbv)
    | ((with_reducible refine E2 (h22 _ _ (steelyardref07_Good.J ‹steelyardref07_Good.f _ _ _ _ = some _› ?_)) ?_); (· simp only [hE, w64, mxE]; try rfl); cbv)
    | ((with_reducible refine E2 (h83 _ _ (steelyardref07_Less.I ‹_›)) ?_); cbv)
    | ((with_reducible apply E2); (· with_reducible apply h83; simp only [hE, w64, mxE]; exact steelyardref07_Less.I ‹_›); cbv)
    | ((with_reducible refine E2 (h83 _ _ (steelyardref07_Less.J ‹steelyardref07_Less.f _ _ _ _ _ _ _ = some _› ?_)) ?_); (· simp only [hE, w64, mxE]; try rfl); cbv)
    | ((with_reducible refine t1 ?_ ?_); (· (simp only [hE, w64, decide_eq_true_eq, decide_eq_false_iff_not]; first | assumption | omega)); intro hb_; (try simp only [hb_]); cbv)
    | ((with_reducible refine t2 ?_ ?_); (· (simp only [hE, w64, decide_eq_true_eq, decide_eq_false_iff_not]; first | assumption | omega)); intro hb_; (try simp only [hb_]); cbv)
    | ((with_reducible refine t3 ?_ ?_); (· (simp only [hE, w64, decide_eq_true_eq, decide_eq_false_iff_not]; first | assumption | omega)); intro hb_; (try simp only [hb_]); cbv)
    | ((with_reducible refine t4 ?_ ?_); (· (simp only [hE, w64, decide_eq_true_eq, decide_eq_false_iff_not]; first | assumption | omega)); intro hb_; (try simp only [hb_]); cbv)
    | (rw [hu]; done)
    | (rw [hu]; simp only [hE, w64]; done)
    | (rw [hu]; simp only [hE, w64]; rfl)
    | (rw [hu]; simp only [hE, w64, Option.some.injEq, U.agg.injEq, U.tup.injEq, U.v.injEq, List.cons.injEq, Value.bool.injEq, and_true, true_and, decide_eq_true_eq, decide_eq_false_iff_not]; first | assumption | omega))
theorem steelyardref07_Cmp.sound : SoundF Try.prog 40 steelyardref07_Cmp.R :=
  Den.sound (l := [(22, steelyardref07_Good.R), (83, steelyardref07_Less.R)]) (orc_cons steelyardref07_Good.sound (orc_cons steelyardref07_Less.sound (orc_nil))) Try.func40 (by kernel_rfl) (by kernel_rfl) (by decide +kernel) fun _ _ hR => steelyardref07_Cmp.body rfl (fun _ _ h => (.inl ⟨rfl, h⟩)) (fun _ _ h => (.inr (.inl ⟨rfl, h⟩))) hR rfl
end Go.Proofs.Yticngjjdjmadgaa.PU
end
section
set_option linter.unusedVariables false
set_option linter.unusedSimpArgs false
namespace Go.Proofs.Yticngjjdjmadgaa.PU
open Go Go.RowKit Go.Proofs.YticngjjdjmadgaaW.PrintWords Go.Proofs.YticngjjdjmadgaaW.PrintMore Go.Proofs.Yticngjjdjmadgaa.Den Go.Proofs.Yticngjjdjmadgaa.PL
def steelyardref07_Sign.R (us : List U) (u : U) : Prop := ∃ (k : Nat) (a0_0 : Bool) (l0_1 : List Int) (l0_2 : List Int) (r : Int), us = [.agg [.v (.bool a0_0), .l l0_1, .l l0_2]] ∧ steelyardref07_Sign.f k a0_0 l0_1 l0_2 = some r ∧ u = .v (.int .i64 r)
theorem steelyardref07_Sign.I {k : Nat} {a0_0 : Bool} {l0_1 : List Int} {l0_2 : List Int} {r : Int} (h : steelyardref07_Sign.f k a0_0 l0_1 l0_2 = some r) : steelyardref07_Sign.R [.agg [.v (.bool a0_0), .l l0_1, .l l0_2]] (.v (.int .i64 r)) := ⟨_, _, _, _, _, rfl, h, rfl⟩
set_option maxHeartbeats 4000000 in
set_option maxRecDepth 100000 in
theorem steelyardref07_Sign.body {D : Dat} {C : Orc} (hD : D = real) (h40 : ∀ us u, steelyardref07_Cmp.R us u → C 40 us u) (h47 : ∀ us u, steelyardref07_Whole.R us u → C 47 us u) {us : List U} {u : U} (hR : steelyardref07_Sign.R us u) {Q : Prop} (hQ : body tys D C Try.f42 us u = Q) : Q := by
  obtain ⟨k, a0_0, l0_1, l0_2, r, rfl, h, hu⟩ := hR
  obtain ⟨len, add, sub, mul, rem, neg, conv, max, eq, ne, lt, le, nth, zeros, copy, cpd, bor⟩ := D
  simp only [real, Dat.mk.injEq] at hD
  obtain ⟨elen, eadd, esub, emul, erem, eneg, econv, emax, eeq, ene, elt, ele, enth, ezeros, ecopy, ecpd, ebor⟩ := hD
  have hE := And.intro elen (And.intro eadd (And.intro esub (And.intro emul (And.intro erem (And.intro eneg (And.intro econv (And.intro ebor (And.intro emax (And.intro eeq (And.intro ene (And.intro elt ele)))))))))))
  cases a0_0 <;>
  unfold steelyardref07_Sign.f at h <;>
  (repeat' first
    | (simp (maxSteps := 2000000) only [↓reduceIte, Bool.false_eq_true, Bool.not_true, Bool.not_false, reduceCtorEq, b00, b01, b10, b11, n00, n01, n10, n11] at h; done)
    | (simp (maxSteps := 2000000) only [↓reduceIte, Bool.false_eq_true, Bool.not_true, Bool.not_false, Option.bind_some, splice_self, b00, b01, b10, b11, n00, n01, n10, n11] at h)
    | (with_reducible refine steelyardref07_Cmp.E h ?_; clear h; rintro _ _ h)
    | (with_reducible refine steelyardref07_Whole.E h ?_; clear h; rintro _ _ _ _ h)
    | (simp (maxSteps := 2000000) only [↓reduceIte, Bool.false_eq_true, Bool.not_true, Bool.not_false, reduceCtorEq, decide_eq_true_eq, bne_iff_ne, ne_eq, beq_iff_eq, Option.bind_some, splice_self, b00, b01, b10, b11, n00, n01, n10, n11] at h)
    | (with_reducible refine iteE h ?_ ?_ <;> clear h <;> intro _ h)
    | (split at h)) <;>
  (injection h with h) <;>
  (try simp only [Prod.mk.injEq] at h) <;>
  (subst h) <;>
  (rw [← hQ]; clear hQ) <;>
  (cbv) <;>
  (repeat first
    | ((with_reducible refine E2 (h40 _ _ (steelyardref07_Cmp.I ‹_›)) ?_); cbv)
    | ((with_reducible apply E2); (· with_reducible apply h40; simp only [hE, w64, mxE]; exact steelyardref07_Cmp.I ‹_›); cbv)
    | ((with_reducible refine E2 (h40 _ _ (steelyardref07_Cmp.J ‹steelyardref07_Cmp.f _ _ _ _ _ _ _ = some _› ?_)) ?_); (· simp only [hE, w64, mxE]; try rfl); cbv)
    | ((with_reducible refine E2 (h47 _ _ (steelyardref07_Whole.I ‹_›)) ?_); cbv)
    | ((with_reducible apply E2); (· with_reducible apply h47; simp only [hE, w64, mxE]; exact steelyardref07_Whole.I ‹_›); cbv)
    | ((with_reducible refine E2 (h47 _ _ (steelyardref07_Whole.J ‹steelyardref07_Whole.f _ _ = some _› ?_)) ?_); (· simp only [hE, w64, mxE]; try rfl); cbv)
    | (rw [hu]; done)
    | (rw [hu]; simp only [hE, w64]; done)
    | (rw [hu]; simp only [hE, w64]; rfl)
    | (rw [hu]; simp only [hE, w64, Option.some.injEq, U.agg.injEq, U.tup.injEq, U.v.injEq, List.cons.injEq, Value.bool.injEq, and_true, true_and, decide_eq_true_eq, decide_eq_false_iff_not]; first | assumption | omega))
theorem steelyardref07_Sign.sound : SoundF Try.prog 42 steelyardref07_Sign.R :=
  Den.sound (l := [(40, steelyardref07_Cmp.R), (47, steelyardref07_Whole.R)]) (orc_cons steelyardref07_Cmp.sound (orc_cons steelyardref07_Whole.sound (orc_nil))) Try.func42 (by kernel_rfl) (by kernel_rfl) (by decide +kernel) fun _ _ hR => steelyardref07_Sign.body rfl (fun _ _ h => (.inl ⟨rfl, h⟩)) (fun _ _ h => (.inr (.inl ⟨rfl, h⟩))) hR rfl
end Go.Proofs.Yticngjjdjmadgaa.PU
end
section
set_option linter.unusedVariables false
set_option linter.unusedSimpArgs false
namespace Go.Proofs.Yticngjjdjmadgaa.PU
open Go Go.RowKit Go.Proofs.YticngjjdjmadgaaW.PrintWords Go.Proofs.YticngjjdjmadgaaW.PrintMore Go.Proofs.Yticngjjdjmadgaa.Den Go.Proofs.Yticngjjdjmadgaa.PL
def steelyardref07_Same.R (us : List U) (u : U) : Prop := ∃ (k : Nat) (a0_0 : Bool) (l0_1 : List Int) (l0_2 : List Int) (a1_0 : Bool) (l1_1 : List Int) (l1_2 : List Int) (r : Bool), us = [.agg [.v (.bool a0_0), .l l0_1, .l l0_2], .agg [.v (.bool a1_0), .l l1_1, .l l1_2]] ∧ steelyardref07_Same.f k a0_0 l0_1 l0_2 a1_0 l1_1 l1_2 = some r ∧ u = .v (.bool r)
theorem steelyardref07_Same.I {k : Nat} {a0_0 : Bool} {l0_1 : List Int} {l0_2 : List Int} {a1_0 : Bool} {l1_1 : List Int} {l1_2 : List Int} {r : Bool} (h : steelyardref07_Same.f k a0_0 l0_1 l0_2 a1_0 l1_1 l1_2 = some r) : steelyardref07_Same.R [.agg [.v (.bool a0_0), .l l0_1, .l l0_2], .agg [.v (.bool a1_0), .l l1_1, .l l1_2]] (.v (.bool r)) := ⟨_, _, _, _, _, _, _, _, rfl, h, rfl⟩
set_option maxHeartbeats 4000000 in
set_option maxRecDepth 100000 in
theorem steelyardref07_Same.body {D : Dat} {C : Orc} (hD : D = real) (h22 : ∀ us u, steelyardref07_Good.R us u → C 22 us u) (h83 : ∀ us u, steelyardref07_Less.R us u → C 83 us u) {us : List U} {u : U} (hR : steelyardref07_Same.R us u) {Q : Prop} (hQ : body tys D C Try.f46 us u = Q) : Q := by
  obtain ⟨k, a0_0, l0_1, l0_2, a1_0, l1_1, l1_2, r, rfl, h, hu⟩ := hR
  obtain ⟨len, add, sub, mul, rem, neg, conv, max, eq, ne, lt, le, nth, zeros, copy, cpd, bor⟩ := D
  simp only [real, Dat.mk.injEq] at hD
  obtain ⟨elen, eadd, esub, emul, erem, eneg, econv, emax, eeq, ene, elt, ele, enth, ezeros, ecopy, ecpd, ebor⟩ := hD
  have hE := And.intro elen (And.intro eadd (And.intro esub (And.intro emul (And.intro erem (And.intro eneg (And.intro econv (And.intro ebor (And.intro emax (And.intro eeq (And.intro ene (And.intro elt ele)))))))))))
  cases a0_0 <;>
  cases a1_0 <;>
  unfold steelyardref07_Same.f at h <;>
  (repeat' first
    | (simp (maxSteps := 2000000) only [↓reduceIte, Bool.false_eq_true, Bool.not_true, Bool.not_false, reduceCtorEq, b00, b01, b10, b11, n00, n01, n10, n11] at h; done)
    | (simp (maxSteps := 2000000) only [↓reduceIte, Bool.false_eq_true, Bool.not_true, Bool.not_false, Option.bind_some, splice_self, b00, b01, b10, b11, n00, n01, n10, n11] at h)
    | (rw [‹steelyardref07_Good.f _ _ _ _ = some _›] at h; simp only [Option.bind_some] at h)
    | (with_reducible refine steelyardref07_Good.E h ?_; clear h; rintro (_ | _) _ h)
    | (with_reducible refine steelyardref07_Less.E h ?_; clear h; rintro _ _ h)
    | (simp (maxSteps := 2000000) only [↓reduceIte, Bool.false_eq_true, Bool.not_true, Bool.not_false, reduceCtorEq, decide_eq_true_eq, bne_iff_ne, ne_eq, beq_iff_eq, Option.bind_some, splice_self, b00, b01, b10, b11, n00, n01, n10, n11] at h)
    | (with_reducible refine iteE h ?_ ?_ <;> clear h <;> intro _ h)
    | (split at h)) <;>
  (injection h with h) <;>
  (try simp only [Prod.mk.injEq] at h) <;>
  (subst h) <;>
  (rw [← hQ]; clear hQ) <;>
  (cbv) <;>
  (repeat first
    | ((with_reducible refine E2 (h22 _ _ (steelyardref07_Good.I ‹_›)) ?_); cbv)
    | ((with_reducible apply E2); (· with_reducible apply h22; simp only [hE, w64, mxE]; exact steelyardref07_Good.I ‹_›); cbv)
    | ((with_reducible refine E2 (h22 _ _ (steelyardref07_Good.J ‹steelyardref07_Good.f _ _ _ _ = some _› ?_)) ?_); (· simp only [hE, w64, mxE]; try rfl); cbv)
    | ((with_reducible refine E2 (h83 _ _ (steelyardref07_Less.I ‹_›)) ?_); cbv)
    | ((with_reducible apply E2); (· with_reducible apply h83; simp only [hE, w64, mxE]; exact steelyardref07_Less.I ‹_›); cbv)
    | ((with_reducible refine E2 (h83 _ _ (steelyardref07_Less.J ‹steelyardref07_Less.f _ _ _ _ _ _ _ = some _› ?_)) ?_); (· simp only [hE, w64, mxE]; try rfl); cbv)
    | ((with_reducible refine t1 ?_ ?_); (· (simp only [hE, w64, decide_eq_true_eq, decide_eq_false_iff_not]; first | assumption | omega)); intro hb_; (try simp only [hb_]); cbv)
    | ((with_reducible refine t2 ?_ ?_); (· (simp only [hE, w64, decide_eq_true_eq, decide_eq_false_iff_not]; first | assumption | omega)); intro hb_; (try simp only [hb_]); cbv)
    | ((with_reducible refine t3 ?_ ?_); (· (simp only [hE, w64, decide_eq_true_eq, decide_eq_false_iff_not]; first | assumption | omega)); intro hb_; (try simp only [hb_]); cbv)
    | ((with_reducible refine t4 ?_ ?_); (· (simp only [hE, w64, decide_eq_true_eq, decide_eq_false_iff_not]; first | assumption | omega)); intro hb_; (try simp only [hb_]); cbv)
    | (rw [hu]; done)
    | (rw [hu]; simp only [hE, w64]; done)
    | (rw [hu]; simp only [hE, w64]; rfl)
    | (rw [hu]; simp only [hE, w64, Option.some.injEq, U.agg.injEq, U.tup.injEq, U.v.injEq, List.cons.injEq, Value.bool.injEq, and_true, true_and, decide_eq_true_eq, decide_eq_false_iff_not]; first | assumption | omega))
theorem steelyardref07_Same.sound : SoundF Try.prog 46 steelyardref07_Same.R :=
  Den.sound (l := [(22, steelyardref07_Good.R), (83, steelyardref07_Less.R)]) (orc_cons steelyardref07_Good.sound (orc_cons steelyardref07_Less.sound (orc_nil))) Try.func46 (by kernel_rfl) (by kernel_rfl) (by decide +kernel) fun _ _ hR => steelyardref07_Same.body rfl (fun _ _ h => (.inl ⟨rfl, h⟩)) (fun _ _ h => (.inr (.inl ⟨rfl, h⟩))) hR rfl
end Go.Proofs.Yticngjjdjmadgaa.PU
end
section
set_option linter.unusedVariables false
set_option linter.unusedSimpArgs false
namespace Go.Proofs.Yticngjjdjmadgaa.PU
open Go Go.RowKit Go.Proofs.YticngjjdjmadgaaW.PrintWords Go.Proofs.YticngjjdjmadgaaW.PrintMore Go.Proofs.Yticngjjdjmadgaa.Den Go.Proofs.Yticngjjdjmadgaa.PL
def steelyardkeep_OwnInt.R (us : List U) (u : U) : Prop := ∃ (a0_0 : Bool) (l0_1 : List Int) (r1 : Bool) (r2 : List Int), us = [.agg [.v (.bool a0_0), .l l0_1]] ∧ steelyardkeep_OwnInt.f a0_0 l0_1 = some (r1, r2) ∧ u = .agg [.v (.bool r1), .l r2]
theorem steelyardkeep_OwnInt.I {a0_0 : Bool} {l0_1 : List Int} {r1 : Bool} {r2 : List Int} (h : steelyardkeep_OwnInt.f a0_0 l0_1 = some (r1, r2)) : steelyardkeep_OwnInt.R [.agg [.v (.bool a0_0), .l l0_1]] (.agg [.v (.bool r1), .l r2]) := ⟨_, _, _, _, rfl, h, rfl⟩
theorem steelyardkeep_OwnInt.J {a0_0 : Bool} {l0_1 : List Int} {r1 : Bool} {r2 : List Int} (h : steelyardkeep_OwnInt.f a0_0 l0_1 = some (r1, r2)) {us : List U} (hus : us = [.agg [.v (.bool a0_0), .l l0_1]]) : steelyardkeep_OwnInt.R us (.agg [.v (.bool r1), .l r2]) := ⟨_, _, _, _, hus, h, rfl⟩
theorem steelyardkeep_OwnInt.E {β : Type} {a0_0 : Bool} {l0_1 : List Int} {g : Bool × List Int → Option β} {z : β} {Q : Prop} (h : (steelyardkeep_OwnInt.f a0_0 l0_1).bind g = some z) (c : ∀ (r1 : Bool) (r2 : List Int), steelyardkeep_OwnInt.f a0_0 l0_1 = some (r1, r2) → g (r1, r2) = some z → Q) : Q := by
  obtain ⟨p, h1, h2⟩ := Option.bind_eq_some_iff.1 h
  exact c p.1 p.2 h1 h2
set_option maxHeartbeats 4000000 in
set_option maxRecDepth 100000 in
theorem steelyardkeep_OwnInt.body {D : Dat} {C : Orc} (hD : D = real) (h26 : ∀ us u, steelyardkeep_OwnNat.R us u → C 26 us u) {us : List U} {u : U} (hR : steelyardkeep_OwnInt.R us u) {Q : Prop} (hQ : body tys D C Try.f25 us u = Q) : Q := by
  obtain ⟨a0_0, l0_1, r1, r2, rfl, h, hu⟩ := hR
  obtain ⟨len, add, sub, mul, rem, neg, conv, max, eq, ne, lt, le, nth, zeros, copy, cpd, bor⟩ := D
  simp only [real, Dat.mk.injEq] at hD
  obtain ⟨elen, eadd, esub, emul, erem, eneg, econv, emax, eeq, ene, elt, ele, enth, ezeros, ecopy, ecpd, ebor⟩ := hD
  have hE := And.intro elen (And.intro eadd (And.intro esub (And.intro emul (And.intro erem (And.intro eneg (And.intro econv (And.intro ebor (And.intro emax (And.intro eeq (And.intro ene (And.intro elt ele)))))))))))
  cases a0_0 <;>
  unfold steelyardkeep_OwnInt.f at h <;>
  (repeat' first
    | (simp (maxSteps := 2000000) only [↓reduceIte, Bool.false_eq_true, Bool.not_true, Bool.not_false, reduceCtorEq, b00, b01, b10, b11, n00, n01, n10, n11] at h; done)
    | (simp (maxSteps := 2000000) only [↓reduceIte, Bool.false_eq_true, Bool.not_true, Bool.not_false, Option.bind_some, splice_self, b00, b01, b10, b11, n00, n01, n10, n11] at h)
    | (with_reducible refine steelyardkeep_OwnNat.E h ?_; clear h; rintro _ _ h)
    | (simp (maxSteps := 2000000) only [↓reduceIte, Bool.false_eq_true, Bool.not_true, Bool.not_false, reduceCtorEq, decide_eq_true_eq, bne_iff_ne, ne_eq, beq_iff_eq, Option.bind_some, splice_self, b00, b01, b10, b11, n00, n01, n10, n11] at h)
    | (with_reducible refine iteE h ?_ ?_ <;> clear h <;> intro _ h)
    | (split at h)) <;>
  (injection h with h) <;>
  (try simp only [Prod.mk.injEq] at h) <;>
  (obtain ⟨rfl, rfl⟩ := h) <;>
  (rw [← hQ]; clear hQ) <;>
  (cbv) <;>
  (repeat first
    | ((with_reducible refine E2 (h26 _ _ (steelyardkeep_OwnNat.I ‹_›)) ?_); cbv)
    | ((with_reducible apply E2); (· with_reducible apply h26; simp only [hE, w64, mxE]; exact steelyardkeep_OwnNat.I ‹_›); cbv)
    | ((with_reducible refine E2 (h26 _ _ (steelyardkeep_OwnNat.J ‹steelyardkeep_OwnNat.f _ = some _› ?_)) ?_); (· simp only [hE, w64, mxE]; try rfl); cbv)
    | (rw [hu]; done)
    | (rw [hu]; simp only [hE, w64]; done)
    | (rw [hu]; simp only [hE, w64]; rfl)
    | (rw [hu]; simp only [hE, w64, Option.some.injEq, U.agg.injEq, U.tup.injEq, U.v.injEq, List.cons.injEq, Value.bool.injEq, and_true, true_and, decide_eq_true_eq, decide_eq_false_iff_not]; first | assumption | omega))
theorem steelyardkeep_OwnInt.sound : SoundF Try.prog 25 steelyardkeep_OwnInt.R :=
  Den.sound (l := [(26, steelyardkeep_OwnNat.R)]) (orc_cons steelyardkeep_OwnNat.sound (orc_nil)) Try.func25 (by kernel_rfl) (by kernel_rfl) (by decide +kernel) fun _ _ hR => steelyardkeep_OwnInt.body rfl (fun _ _ h => (.inl ⟨rfl, h⟩)) hR rfl
end Go.Proofs.Yticngjjdjmadgaa.PU
end
section
set_option linter.unusedVariables false
set_option linter.unusedSimpArgs false
namespace Go.Proofs.Yticngjjdjmadgaa.PU
open Go Go.RowKit Go.Proofs.YticngjjdjmadgaaW.PrintWords Go.Proofs.YticngjjdjmadgaaW.PrintMore Go.Proofs.Yticngjjdjmadgaa.Den Go.Proofs.Yticngjjdjmadgaa.PL
def steelyardkeep_OwnRat.R (us : List U) (u : U) : Prop := ∃ (a0_0 : Bool) (l0_1 : List Int) (l0_2 : List Int) (r1 : Bool) (r2 : List Int) (r3 : List Int), us = [.agg [.v (.bool a0_0), .l l0_1, .l l0_2]] ∧ steelyardkeep_OwnRat.f a0_0 l0_1 l0_2 = some (r1, r2, r3) ∧ u = .agg [.v (.bool r1), .l r2, .l r3]
theorem steelyardkeep_OwnRat.I {a0_0 : Bool} {l0_1 : List Int} {l0_2 : List Int} {r1 : Bool} {r2 : List Int} {r3 : List Int} (h : steelyardkeep_OwnRat.f a0_0 l0_1 l0_2 = some (r1, r2, r3)) : steelyardkeep_OwnRat.R [.agg [.v (.bool a0_0), .l l0_1, .l l0_2]] (.agg [.v (.bool r1), .l r2, .l r3]) := ⟨_, _, _, _, _, _, rfl, h, rfl⟩
set_option maxHeartbeats 4000000 in
set_option maxRecDepth 100000 in
theorem steelyardkeep_OwnRat.body {D : Dat} {C : Orc} (hD : D = real) (h25 : ∀ us u, steelyardkeep_OwnInt.R us u → C 25 us u) (h26 : ∀ us u, steelyardkeep_OwnNat.R us u → C 26 us u) {us : List U} {u : U} (hR : steelyardkeep_OwnRat.R us u) {Q : Prop} (hQ : body tys D C Try.f16 us u = Q) : Q := by
  obtain ⟨a0_0, l0_1, l0_2, r1, r2, r3, rfl, h, hu⟩ := hR
  obtain ⟨len, add, sub, mul, rem, neg, conv, max, eq, ne, lt, le, nth, zeros, copy, cpd, bor⟩ := D
  simp only [real, Dat.mk.injEq] at hD
  obtain ⟨elen, eadd, esub, emul, erem, eneg, econv, emax, eeq, ene, elt, ele, enth, ezeros, ecopy, ecpd, ebor⟩ := hD
  have hE := And.intro elen (And.intro eadd (And.intro esub (And.intro emul (And.intro erem (And.intro eneg (And.intro econv (And.intro ebor (And.intro emax (And.intro eeq (And.intro ene (And.intro elt ele)))))))))))
  cases a0_0 <;>
  unfold steelyardkeep_OwnRat.f at h <;>
  (repeat' first
    | (simp (maxSteps := 2000000) only [↓reduceIte, Bool.false_eq_true, Bool.not_true, Bool.not_false, reduceCtorEq, b00, b01, b10, b11, n00, n01, n10, n11] at h; done)
    | (simp (maxSteps := 2000000) only [↓reduceIte, Bool.false_eq_true, Bool.not_true, Bool.not_false, Option.bind_some, splice_self, b00, b01, b10, b11, n00, n01, n10, n11] at h)
    | (with_reducible refine steelyardkeep_OwnInt.E h ?_; clear h; rintro _ _ _ h)
    | (with_reducible refine steelyardkeep_OwnNat.E h ?_; clear h; rintro _ _ h)
    | (simp (maxSteps := 2000000) only [↓reduceIte, Bool.false_eq_true, Bool.not_true, Bool.not_false, reduceCtorEq, decide_eq_true_eq, bne_iff_ne, ne_eq, beq_iff_eq, Option.bind_some, splice_self, b00, b01, b10, b11, n00, n01, n10, n11] at h)
    | (with_reducible refine iteE h ?_ ?_ <;> clear h <;> intro _ h)
    | (split at h)) <;>
  (injection h with h) <;>
  (try simp only [Prod.mk.injEq] at h) <;>
  (obtain ⟨rfl, rfl, rfl⟩ := h) <;>
  (rw [← hQ]; clear hQ) <;>
  (cbv) <;>
  (repeat first
    | ((with_reducible refine E2 (h25 _ _ (steelyardkeep_OwnInt.I ‹_›)) ?_); cbv)
    | ((with_reducible apply E2); (· with_reducible apply h25; simp only [hE, w64, mxE]; exact steelyardkeep_OwnInt.I ‹_›); cbv)
    | ((with_reducible refine E2 (h25 _ _ (steelyardkeep_OwnInt.J ‹steelyardkeep_OwnInt.f _ _ = some _› ?_)) ?_); (· simp only [hE, w64, mxE]; try rfl); cbv)
    | ((with_reducible refine E2 (h26 _ _ (steelyardkeep_OwnNat.I ‹_›)) ?_); cbv)
    | ((with_reducible apply E2); (· with_reducible apply h26; simp only [hE, w64, mxE]; exact steelyardkeep_OwnNat.I ‹_›); cbv)
    | ((with_reducible refine E2 (h26 _ _ (steelyardkeep_OwnNat.J ‹steelyardkeep_OwnNat.f _ = some _› ?_)) ?_); (· simp only [hE, w64, mxE]; try rfl); cbv)
    | (rw [hu]; done)
    | (rw [hu]; simp only [hE, w64]; done)
    | (rw [hu]; simp only [hE, w64]; rfl)
    | (rw [hu]; simp only [hE, w64, Option.some.injEq, U.agg.injEq, U.tup.injEq, U.v.injEq, List.cons.injEq, Value.bool.injEq, and_true, true_and, decide_eq_true_eq, decide_eq_false_iff_not]; first | assumption | omega))
theorem steelyardkeep_OwnRat.sound : SoundF Try.prog 16 steelyardkeep_OwnRat.R :=
  Den.sound (l := [(25, steelyardkeep_OwnInt.R), (26, steelyardkeep_OwnNat.R)]) (orc_cons steelyardkeep_OwnInt.sound (orc_cons steelyardkeep_OwnNat.sound (orc_nil))) Try.func16 (by kernel_rfl) (by kernel_rfl) (by decide +kernel) fun _ _ hR => steelyardkeep_OwnRat.body rfl (fun _ _ h => (.inl ⟨rfl, h⟩)) (fun _ _ h => (.inr (.inl ⟨rfl, h⟩))) hR rfl
end Go.Proofs.Yticngjjdjmadgaa.PU
end
section
set_option linter.unusedVariables false
set_option linter.unusedSimpArgs false
namespace Go.Proofs.Yticngjjdjmadgaa.PU
open Go Go.RowKit Go.Proofs.YticngjjdjmadgaaW.PrintWords Go.Proofs.YticngjjdjmadgaaW.PrintMore Go.Proofs.Yticngjjdjmadgaa.Den Go.Proofs.Yticngjjdjmadgaa.PL
def steelyardlaw07_Long.R (us : List U) (u : U) : Prop := ∃ (a0_0 : Bool) (l0_1 : List Int) (l0_2 : List Int) (r : Bool), us = [.agg [.v (.bool a0_0), .l l0_1, .l l0_2]] ∧ steelyardlaw07_Long.f a0_0 l0_1 l0_2 = some r ∧ u = .v (.bool r)
theorem steelyardlaw07_Long.I {a0_0 : Bool} {l0_1 : List Int} {l0_2 : List Int} {r : Bool} (h : steelyardlaw07_Long.f a0_0 l0_1 l0_2 = some r) : steelyardlaw07_Long.R [.agg [.v (.bool a0_0), .l l0_1, .l l0_2]] (.v (.bool r)) := ⟨_, _, _, _, rfl, h, rfl⟩
set_option maxHeartbeats 4000000 in
set_option maxRecDepth 100000 in
theorem steelyardlaw07_Long.body {D : Dat} {C : Orc} (hD : D = real)  {us : List U} {u : U} (hR : steelyardlaw07_Long.R us u) {Q : Prop} (hQ : body tys D C Try.f14 us u = Q) : Q := by
  obtain ⟨a0_0, l0_1, l0_2, r, rfl, h, hu⟩ := hR
  obtain ⟨len, add, sub, mul, rem, neg, conv, max, eq, ne, lt, le, nth, zeros, copy, cpd, bor⟩ := D
  simp only [real, Dat.mk.injEq] at hD
  obtain ⟨elen, eadd, esub, emul, erem, eneg, econv, emax, eeq, ene, elt, ele, enth, ezeros, ecopy, ecpd, ebor⟩ := hD
  have hE := And.intro elen (And.intro eadd (And.intro esub (And.intro emul (And.intro erem (And.intro eneg (And.intro econv (And.intro ebor (And.intro emax (And.intro eeq (And.intro ene (And.intro elt ele)))))))))))
  cases a0_0 <;>
  unfold steelyardlaw07_Long.f at h <;>
  (repeat' first
    | (simp (maxSteps := 2000000) only [↓reduceIte, Bool.false_eq_true, Bool.not_true, Bool.not_false, reduceCtorEq, b00, b01, b10, b11, n00, n01, n10, n11] at h; done)
    | (simp (maxSteps := 2000000) only [↓reduceIte, Bool.false_eq_true, Bool.not_true, Bool.not_false, Option.bind_some, splice_self, b00, b01, b10, b11, n00, n01, n10, n11] at h)
    | (simp (maxSteps := 2000000) only [↓reduceIte, Bool.false_eq_true, Bool.not_true, Bool.not_false, reduceCtorEq, decide_eq_true_eq, bne_iff_ne, ne_eq, beq_iff_eq, Option.bind_some, splice_self, b00, b01, b10, b11, n00, n01, n10, n11] at h)
    | (with_reducible refine iteE h ?_ ?_ <;> clear h <;> intro _ h)
    | (split at h)) <;>
  (injection h with h) <;>
  (try simp only [Prod.mk.injEq] at h) <;>
  (subst h) <;>
  (rw [← hQ]; clear hQ) <;>
  (cbv) <;>
  (repeat first
    | ((with_reducible refine t1 ?_ ?_); (· (simp only [hE, w64, decide_eq_true_eq, decide_eq_false_iff_not]; first | assumption | omega)); intro hb_; (try simp only [hb_]); cbv)
    | ((with_reducible refine t2 ?_ ?_); (· (simp only [hE, w64, decide_eq_true_eq, decide_eq_false_iff_not]; first | assumption | omega)); intro hb_; (try simp only [hb_]); cbv)
    | ((with_reducible refine t3 ?_ ?_); (· (simp only [hE, w64, decide_eq_true_eq, decide_eq_false_iff_not]; first | assumption | omega)); intro hb_; (try simp only [hb_]); cbv)
    | ((with_reducible refine t4 ?_ ?_); (· (simp only [hE, w64, decide_eq_true_eq, decide_eq_false_iff_not]; first | assumption | omega)); intro hb_; (try simp only [hb_]); cbv)
    | (rw [hu]; done)
    | (rw [hu]; simp only [hE, w64]; done)
    | (rw [hu]; simp only [hE, w64]; rfl)
    | (rw [hu]; simp only [hE, w64, Option.some.injEq, U.agg.injEq, U.tup.injEq, U.v.injEq, List.cons.injEq, Value.bool.injEq, and_true, true_and, decide_eq_true_eq, decide_eq_false_iff_not]; first | assumption | omega))
theorem steelyardlaw07_Long.sound : SoundF Try.prog 14 steelyardlaw07_Long.R :=
  Den.sound (l := []) (orc_nil) Try.func14 (by kernel_rfl) (by kernel_rfl) (by decide +kernel) fun _ _ hR => steelyardlaw07_Long.body rfl  hR rfl
end Go.Proofs.Yticngjjdjmadgaa.PU
end
