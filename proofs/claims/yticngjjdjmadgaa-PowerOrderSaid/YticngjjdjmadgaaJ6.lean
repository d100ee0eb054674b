/- Part 6 of the proof. -/
import Derived.Test.YticngjjdjmadgaaProg
import Derived.Laws.Tables
import Derived.Orders
import Derived.Below
import Derived.Deep.Draws
import Derived.Deep.AppendLies
import Derived.Maps.AppendAt
import Derived.OwnWalk
import Derived.Laws.BytesArg
import Derived.Laws.MakeOwn
import Derived.Laws.OwnMore
import Derived.Deep.OwnRows
import Derived.Tactics
import Derived.Lib.ConvBytes
import Derived.Laws.Slices
import Derived.WalkKit
import Derived.KernelRfl
import Derived.RowKit3
import Derived.Deep.LoopGhost
import Derived.Deep.QuietTactic
import Derived.BigQuiet
import Derived.WideLaws
import Derived.Deep.DeepCutAuto
import Derived.Deep.CutBlock
import Derived.Deep.RegionHeld3
import Derived.Laws.Rows
import Derived.Lib.AppendStr
import Derived.ArgAppend
import Derived.Laws.IdiomCopy
import Derived.RowKit
import Derived.OrdersHeld
import Derived.Laws.BitsLemmas
import Derived.Laws.Cells
import Derived.Great.BuildSlice
import Derived.Laws.CopyRow
import Derived.Laws.StructEq
import Derived.Test.YticngjjdjmadgaaJ5
set_option linter.unusedVariables false
set_option linter.unusedSimpArgs false
section
set_option linter.unusedVariables false
set_option linter.unusedSimpArgs false
namespace Go.Proofs.Yticngjjdjmadgaa.PU
open Go Go.RowKit Go.Proofs.YticngjjdjmadgaaW.PrintWords Go.Proofs.YticngjjdjmadgaaW.PrintMore Go.Proofs.Yticngjjdjmadgaa.Den Go.Proofs.Yticngjjdjmadgaa.PL
def steelyardlaw08_wakes.R (us : List U) (u : U) : Prop := ∃ (k : Nat) (r : Bool), us = [] ∧ steelyardlaw08_wakes.f k = some r ∧ u = .v (.bool r)
theorem steelyardlaw08_wakes.I {k : Nat} {r : Bool} (h : steelyardlaw08_wakes.f k = some r) : steelyardlaw08_wakes.R [] (.v (.bool r)) := ⟨_, _, rfl, h, rfl⟩
theorem steelyardlaw08_wakes.J {k : Nat} {r : Bool} (h : steelyardlaw08_wakes.f k = some r) {us : List U} (hus : us = []) : steelyardlaw08_wakes.R us (.v (.bool r)) := ⟨_, _, hus, h, rfl⟩
theorem steelyardlaw08_wakes.E {β : Type} {k : Nat} {g : Bool → Option β} {z : β} {Q : Prop} (h : (steelyardlaw08_wakes.f k).bind g = some z) (c : ∀ (r : Bool), steelyardlaw08_wakes.f k = some r → g r = some z → Q) : Q := by
  obtain ⟨p, h1, h2⟩ := Option.bind_eq_some_iff.1 h
  exact c p h1 h2
set_option maxHeartbeats 4000000 in
set_option maxRecDepth 100000 in
theorem steelyardlaw08_wakes.body {D : Dat} {C : Orc} (hD : D = real) (h17 : ∀ us u, power_Of.R us u → C 17 us u) (h18 : ∀ us u, power_Scale.R us u → C 18 us u) (h21 : ∀ us u, steelyardkeep_Rat.R us u → C 21 us u) (h31 : ∀ us u, rat_Whole.R us u → C 31 us u) (h48 : ∀ us u, steelyardlaw07_By.R us u → C 48 us u) {us : List U} {u : U} (hR : steelyardlaw08_wakes.R us u) {Q : Prop} (hQ : body tys D C Try.f15 us u = Q) : Q := by
  obtain ⟨k, r, rfl, h, hu⟩ := hR
  obtain ⟨len, add, sub, mul, rem, neg, conv, max, eq, ne, lt, le, nth, zeros, copy, cpd, bor⟩ := D
  simp only [real, Dat.mk.injEq] at hD
  obtain ⟨elen, eadd, esub, emul, erem, eneg, econv, emax, eeq, ene, elt, ele, enth, ezeros, ecopy, ecpd, ebor⟩ := hD
  have hE := And.intro elen (And.intro eadd (And.intro esub (And.intro emul (And.intro erem (And.intro eneg (And.intro econv (And.intro ebor (And.intro emax (And.intro eeq (And.intro ene (And.intro elt ele)))))))))))
  unfold steelyardlaw08_wakes.f at h <;>
  (repeat' first
    | (simp (maxSteps := 2000000) only [↓reduceIte, Bool.false_eq_true, Bool.not_true, Bool.not_false, reduceCtorEq, b00, b01, b10, b11, n00, n01, n10, n11] at h; done)
    | (simp (maxSteps := 2000000) only [↓reduceIte, Bool.false_eq_true, Bool.not_true, Bool.not_false, Option.bind_some, splice_self, b00, b01, b10, b11, n00, n01, n10, n11] at h)
    | (rw [‹power_Of.f _ _ _ _ _ = some _›] at h; simp only [Option.bind_some] at h)
    | (with_reducible refine power_Of.E h ?_; clear h; rintro _ _ _ _ _ h)
    | (with_reducible refine power_Scale.E h ?_; clear h; rintro _ _ _ _ _ h)
    | (rw [‹steelyardkeep_Rat.f _ _ _ _ _ _ _ = some _›] at h; simp only [Option.bind_some] at h)
    | (with_reducible refine steelyardkeep_Rat.E h ?_; clear h; rintro (_ | _) _ h)
    | (rw [‹rat_Whole.f _ _ = some _›] at h; simp only [Option.bind_some] at h)
    | (with_reducible refine rat_Whole.E h ?_; clear h; rintro _ _ _ _ h)
    | (rw [‹steelyardlaw07_By.f _ _ _ = some _›] at h; simp only [Option.bind_some] at h)
    | (with_reducible refine steelyardlaw07_By.E h ?_; clear h; rintro _ _ _ _ h)
    | (simp (maxSteps := 2000000) only [↓reduceIte, Bool.false_eq_true, Bool.not_true, Bool.not_false, reduceCtorEq, decide_eq_true_eq, bne_iff_ne, ne_eq, beq_iff_eq, Option.bind_some, splice_self, b00, b01, b10, b11, n00, n01, n10, n11] at h)
    | (with_reducible refine iteE h ?_ ?_ <;> clear h <;> intro _ h)
    | (split at h)) <;>
  (injection h with h) <;>
  (try simp only [Prod.mk.injEq] at h) <;>
  (subst h) <;>
  (rw [← hQ]; clear hQ) <;>
  (cbv) <;>
  (repeat first
    | ((with_reducible refine Exists.intro _ (And.intro (h17 _ _ (power_Of.I ‹_›)) ?_)); cbv)
    | ((with_reducible apply Exists.intro); (with_reducible apply And.intro); (· with_reducible apply h17; simp only [hE, w64, mxE]; exact power_Of.I ‹_›); cbv)
    | ((with_reducible refine Exists.intro _ (And.intro (h17 _ _ (power_Of.J ‹power_Of.f _ _ _ _ _ = some _› ?_)) ?_)); (· first | (simp only [hE, w64, mxE]; done) | (simp only [hE, w64, mxE]; rfl)); cbv)
    | ((with_reducible refine Exists.intro _ (And.intro (h18 _ _ (power_Scale.I ‹_›)) ?_)); cbv)
    | ((with_reducible apply Exists.intro); (with_reducible apply And.intro); (· with_reducible apply h18; simp only [hE, w64, mxE]; exact power_Scale.I ‹_›); cbv)
    | ((with_reducible refine Exists.intro _ (And.intro (h18 _ _ (power_Scale.J ‹power_Scale.f _ _ _ _ _ = some _› ?_)) ?_)); (· first | (simp only [hE, w64, mxE]; done) | (simp only [hE, w64, mxE]; rfl)); cbv)
    | ((with_reducible refine Exists.intro _ (And.intro (h21 _ _ (steelyardkeep_Rat.I ‹_›)) ?_)); cbv)
    | ((with_reducible apply Exists.intro); (with_reducible apply And.intro); (· with_reducible apply h21; simp only [hE, w64, mxE]; exact steelyardkeep_Rat.I ‹_›); cbv)
    | ((with_reducible refine Exists.intro _ (And.intro (h21 _ _ (steelyardkeep_Rat.J ‹steelyardkeep_Rat.f _ _ _ _ _ _ _ = some _› ?_)) ?_)); (· first | (simp only [hE, w64, mxE]; done) | (simp only [hE, w64, mxE]; rfl)); cbv)
    | ((with_reducible refine Exists.intro _ (And.intro (h31 _ _ (rat_Whole.I ‹_›)) ?_)); cbv)
    | ((with_reducible apply Exists.intro); (with_reducible apply And.intro); (· with_reducible apply h31; simp only [hE, w64, mxE]; exact rat_Whole.I ‹_›); cbv)
    | ((with_reducible refine Exists.intro _ (And.intro (h31 _ _ (rat_Whole.J ‹rat_Whole.f _ _ = some _› ?_)) ?_)); (· first | (simp only [hE, w64, mxE]; done) | (simp only [hE, w64, mxE]; rfl)); cbv)
    | ((with_reducible refine Exists.intro _ (And.intro (h48 _ _ (steelyardlaw07_By.I ‹_›)) ?_)); cbv)
    | ((with_reducible apply Exists.intro); (with_reducible apply And.intro); (· with_reducible apply h48; simp only [hE, w64, mxE]; exact steelyardlaw07_By.I ‹_›); cbv)
    | ((with_reducible refine Exists.intro _ (And.intro (h48 _ _ (steelyardlaw07_By.J ‹steelyardlaw07_By.f _ _ _ = some _› ?_)) ?_)); (· first | (simp only [hE, w64, mxE]; done) | (simp only [hE, w64, mxE]; rfl)); cbv)
    | ((with_reducible refine t1 ?_ ?_); (· (simp only [hE, w64, decide_eq_true_eq, decide_eq_false_iff_not]; first | assumption | omega)); intro hb_; (try simp only [hb_]); cbv)
    | ((with_reducible refine t2 ?_ ?_); (· (simp only [hE, w64, decide_eq_true_eq, decide_eq_false_iff_not]; first | assumption | omega)); intro hb_; (try simp only [hb_]); cbv)
    | ((with_reducible refine t3 ?_ ?_); (· (simp only [hE, w64, decide_eq_true_eq, decide_eq_false_iff_not]; first | assumption | omega)); intro hb_; (try simp only [hb_]); cbv)
    | ((with_reducible refine t4 ?_ ?_); (· (simp only [hE, w64, decide_eq_true_eq, decide_eq_false_iff_not]; first | assumption | omega)); intro hb_; (try simp only [hb_]); cbv)
    | (rw [hu]; done)
    | (rw [hu]; simp only [hE, w64]; done)
    | (rw [hu]; simp only [hE, w64]; rfl)
    | (rw [hu]; simp only [hE, w64, Option.some.injEq, U.agg.injEq, U.tup.injEq, U.v.injEq, List.cons.injEq, Value.bool.injEq, and_true, true_and, decide_eq_true_eq, decide_eq_false_iff_not]; first | assumption | omega))
theorem steelyardlaw08_wakes.sound : SoundF Try.prog 15 steelyardlaw08_wakes.R :=
  Den.sound (l := [(17, power_Of.R), (18, power_Scale.R), (21, steelyardkeep_Rat.R), (31, rat_Whole.R), (48, steelyardlaw07_By.R)]) (orc_cons power_Of.sound (orc_cons power_Scale.sound (orc_cons steelyardkeep_Rat.sound (orc_cons rat_Whole.sound (orc_cons steelyardlaw07_By.sound (orc_nil)))))) Try.func15 (by kernel_rfl) (by kernel_rfl) (by decide +kernel) fun _ _ hR => steelyardlaw08_wakes.body rfl (fun _ _ h => (.inl ⟨rfl, h⟩)) (fun _ _ h => (.inr (.inl ⟨rfl, h⟩))) (fun _ _ h => (.inr (.inr (.inl ⟨rfl, h⟩)))) (fun _ _ h => (.inr (.inr (.inr (.inl ⟨rfl, h⟩))))) (fun _ _ h => (.inr (.inr (.inr (.inr (.inl ⟨rfl, h⟩)))))) hR rfl
end Go.Proofs.Yticngjjdjmadgaa.PU
end
