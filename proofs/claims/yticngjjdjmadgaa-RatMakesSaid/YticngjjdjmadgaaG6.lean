/- Part 6 of the proof. -/
import Derived.Test.YticngjjdjmadgaaProg
import Derived.Laws.Tables
import Derived.Orders
import Derived.Below
import Derived.Deep.Draws
import Derived.Deep.AppendLies
import Derived.Maps.AppendAt
import Derived.OwnWalk
import Derived.Laws.BytesArg
import Derived.Laws.MakeOwn
import Derived.Laws.OwnMore
import Derived.Deep.OwnRows
import Derived.Tactics
import Derived.Lib.ConvBytes
import Derived.Laws.Slices
import Derived.WalkKit
import Derived.KernelRfl
import Derived.RowKit3
import Derived.Deep.LoopGhost
import Derived.Deep.QuietTactic
import Derived.BigQuiet
import Derived.WideLaws
import Derived.Deep.DeepCutAuto
import Derived.Deep.CutBlock
import Derived.Deep.RegionHeld3
import Derived.Laws.Rows
import Derived.Lib.AppendStr
import Derived.ArgAppend
import Derived.Laws.IdiomCopy
import Derived.RowKit
import Derived.OrdersHeld
import Derived.Laws.BitsLemmas
import Derived.Laws.Cells
import Derived.Great.BuildSlice
import Derived.Laws.CopyRow
import Derived.Laws.StructEq
import Derived.Test.YticngjjdjmadgaaG5
set_option linter.unusedVariables false
set_option linter.unusedSimpArgs false
section
set_option linter.unusedVariables false
set_option linter.unusedSimpArgs false
namespace Go.Proofs.Yticngjjdjmadgaa.PU
open Go Go.RowKit Go.Proofs.YticngjjdjmadgaaW.PrintWords Go.Proofs.YticngjjdjmadgaaW.PrintMore Go.Proofs.Yticngjjdjmadgaa.Den Go.Proofs.Yticngjjdjmadgaa.PL
def steelyardlaw07_By.R (us : List U) (u : U) : Prop := ∃ (k : Nat) (a0 : Int) (a1 : Int) (r1 : Bool) (r2 : List Int) (r3 : List Int), us = [.v (.int .i64 a0), .v (.int .i64 a1)] ∧ steelyardlaw07_By.f k a0 a1 = some (r1, r2, r3) ∧ u = .agg [.v (.bool r1), .l r2, .l r3]
theorem steelyardlaw07_By.I {k : Nat} {a0 : Int} {a1 : Int} {r1 : Bool} {r2 : List Int} {r3 : List Int} (h : steelyardlaw07_By.f k a0 a1 = some (r1, r2, r3)) : steelyardlaw07_By.R [.v (.int .i64 a0), .v (.int .i64 a1)] (.agg [.v (.bool r1), .l r2, .l r3]) := ⟨_, _, _, _, _, _, rfl, h, rfl⟩
theorem steelyardlaw07_By.J {k : Nat} {a0 : Int} {a1 : Int} {r1 : Bool} {r2 : List Int} {r3 : List Int} (h : steelyardlaw07_By.f k a0 a1 = some (r1, r2, r3)) {us : List U} (hus : us = [.v (.int .i64 a0), .v (.int .i64 a1)]) : steelyardlaw07_By.R us (.agg [.v (.bool r1), .l r2, .l r3]) := ⟨_, _, _, _, _, _, hus, h, rfl⟩
theorem steelyardlaw07_By.E {β : Type} {k : Nat} {a0 : Int} {a1 : Int} {g : Bool × List Int × List Int → Option β} {z : β} {Q : Prop} (h : (steelyardlaw07_By.f k a0 a1).bind g = some z) (c : ∀ (r1 : Bool) (r2 : List Int) (r3 : List Int), steelyardlaw07_By.f k a0 a1 = some (r1, r2, r3) → g (r1, r2, r3) = some z → Q) : Q := by
  obtain ⟨p, h1, h2⟩ := Option.bind_eq_some_iff.1 h
  exact c p.1 p.2.1 p.2.2 h1 h2
set_option maxHeartbeats 4000000 in
set_option maxRecDepth 100000 in
theorem steelyardlaw07_By.body {D : Dat} {C : Orc} (hD : D = real) (h39 : ∀ us u, steelyardref07_Div.R us u → C 39 us u) (h47 : ∀ us u, steelyardref07_Whole.R us u → C 47 us u) {us : List U} {u : U} (hR : steelyardlaw07_By.R us u) {Q : Prop} (hQ : body tys D C Try.f48 us u = Q) : Q := by
  obtain ⟨k, a0, a1, r1, r2, r3, rfl, h, hu⟩ := hR
  obtain ⟨len, add, sub, mul, rem, neg, conv, max, eq, ne, lt, le, nth, zeros, copy, cpd, bor⟩ := D
  simp only [real, Dat.mk.injEq] at hD
  obtain ⟨elen, eadd, esub, emul, erem, eneg, econv, emax, eeq, ene, elt, ele, enth, ezeros, ecopy, ecpd, ebor⟩ := hD
  have hE := And.intro elen (And.intro eadd (And.intro esub (And.intro emul (And.intro erem (And.intro eneg (And.intro econv (And.intro ebor (And.intro emax (And.intro eeq (And.intro ene (And.intro elt ele)))))))))))
  unfold steelyardlaw07_By.f at h <;>
  (repeat' first
    | (simp (maxSteps := 2000000) only [↓reduceIte, Bool.false_eq_true, Bool.not_true, Bool.not_false, reduceCtorEq, b00, b01, b10, b11, n00, n01, n10, n11] at h; done)
    | (simp (maxSteps := 2000000) only [↓reduceIte, Bool.false_eq_true, Bool.not_true, Bool.not_false, Option.bind_some, splice_self, b00, b01, b10, b11, n00, n01, n10, n11] at h)
    | (with_reducible refine steelyardref07_Div.E h ?_; clear h; rintro _ _ _ _ _ h)
    | (rw [‹steelyardref07_Whole.f _ _ = some _›] at h; simp only [Option.bind_some] at h)
    | (with_reducible refine steelyardref07_Whole.E h ?_; clear h; rintro _ _ _ _ h)
    | (simp (maxSteps := 2000000) only [↓reduceIte, Bool.false_eq_true, Bool.not_true, Bool.not_false, reduceCtorEq, decide_eq_true_eq, bne_iff_ne, ne_eq, beq_iff_eq, Option.bind_some, splice_self, b00, b01, b10, b11, n00, n01, n10, n11] at h)
    | (with_reducible refine iteE h ?_ ?_ <;> clear h <;> intro _ h)
    | (split at h)) <;>
  (injection h with h) <;>
  (try simp only [Prod.mk.injEq] at h) <;>
  (obtain ⟨rfl, rfl, rfl⟩ := h) <;>
  (rw [← hQ]; clear hQ) <;>
  (cbv) <;>
  (repeat first
    | ((with_reducible refine Exists.intro _ (And.intro (h39 _ _ (steelyardref07_Div.I ‹_›)) ?_)); cbv)
    | ((with_reducible apply Exists.intro); (with_reducible apply And.intro); (· with_reducible apply h39; simp only [hE, w64, mxE]; exact steelyardref07_Div.I ‹_›); cbv)
    | ((with_reducible refine Exists.intro _ (And.intro (h39 _ _ (steelyardref07_Div.J ‹steelyardref07_Div.f _ _ _ _ _ _ _ = some _› ?_)) ?_)); (· first | (simp only [hE, w64, mxE]; done) | (simp only [hE, w64, mxE]; rfl)); cbv)
    | ((with_reducible refine Exists.intro _ (And.intro (h47 _ _ (steelyardref07_Whole.I ‹_›)) ?_)); cbv)
    | ((with_reducible apply Exists.intro); (with_reducible apply And.intro); (· with_reducible apply h47; simp only [hE, w64, mxE]; exact steelyardref07_Whole.I ‹_›); cbv)
    | ((with_reducible refine Exists.intro _ (And.intro (h47 _ _ (steelyardref07_Whole.J ‹steelyardref07_Whole.f _ _ = some _› ?_)) ?_)); (· first | (simp only [hE, w64, mxE]; done) | (simp only [hE, w64, mxE]; rfl)); cbv)
    | ((with_reducible refine t1 ?_ ?_); (· (simp only [hE, w64, decide_eq_true_eq, decide_eq_false_iff_not]; first | assumption | omega)); intro hb_; (try simp only [hb_]); cbv)
    | ((with_reducible refine t2 ?_ ?_); (· (simp only [hE, w64, decide_eq_true_eq, decide_eq_false_iff_not]; first | assumption | omega)); intro hb_; (try simp only [hb_]); cbv)
    | ((with_reducible refine t3 ?_ ?_); (· (simp only [hE, w64, decide_eq_true_eq, decide_eq_false_iff_not]; first | assumption | omega)); intro hb_; (try simp only [hb_]); cbv)
    | ((with_reducible refine t4 ?_ ?_); (· (simp only [hE, w64, decide_eq_true_eq, decide_eq_false_iff_not]; first | assumption | omega)); intro hb_; (try simp only [hb_]); cbv)
    | (rw [hu]; done)
    | (rw [hu]; simp only [hE, w64]; done)
    | (rw [hu]; simp only [hE, w64]; rfl)
    | (rw [hu]; simp only [hE, w64, Option.some.injEq, U.agg.injEq, U.tup.injEq, U.v.injEq, List.cons.injEq, Value.bool.injEq, and_true, true_and, decide_eq_true_eq, decide_eq_false_iff_not]; first | assumption | omega))
theorem steelyardlaw07_By.sound : SoundF Try.prog 48 steelyardlaw07_By.R :=
  Den.sound (l := [(39, steelyardref07_Div.R), (47, steelyardref07_Whole.R)]) (orc_cons steelyardref07_Div.sound (orc_cons steelyardref07_Whole.sound (orc_nil))) Try.func48 (by kernel_rfl) (by kernel_rfl) (by decide +kernel) fun _ _ hR => steelyardlaw07_By.body rfl (fun _ _ h => (.inl ⟨rfl, h⟩)) (fun _ _ h => (.inr (.inl ⟨rfl, h⟩))) hR rfl
end Go.Proofs.Yticngjjdjmadgaa.PU
end
section
set_option linter.unusedVariables false
set_option linter.unusedSimpArgs false
namespace Go.Proofs.Yticngjjdjmadgaa.PU
open Go Go.RowKit Go.Proofs.YticngjjdjmadgaaW.PrintWords Go.Proofs.YticngjjdjmadgaaW.PrintMore Go.Proofs.Yticngjjdjmadgaa.Den Go.Proofs.Yticngjjdjmadgaa.PL
def steelyardlaw07_wakes.R (us : List U) (u : U) : Prop := ∃ (k : Nat) (r : Bool), us = [] ∧ steelyardlaw07_wakes.f k = some r ∧ u = .v (.bool r)
theorem steelyardlaw07_wakes.I {k : Nat} {r : Bool} (h : steelyardlaw07_wakes.f k = some r) : steelyardlaw07_wakes.R [] (.v (.bool r)) := ⟨_, _, rfl, h, rfl⟩
theorem steelyardlaw07_wakes.J {k : Nat} {r : Bool} (h : steelyardlaw07_wakes.f k = some r) {us : List U} (hus : us = []) : steelyardlaw07_wakes.R us (.v (.bool r)) := ⟨_, _, hus, h, rfl⟩
theorem steelyardlaw07_wakes.E {β : Type} {k : Nat} {g : Bool → Option β} {z : β} {Q : Prop} (h : (steelyardlaw07_wakes.f k).bind g = some z) (c : ∀ (r : Bool), steelyardlaw07_wakes.f k = some r → g r = some z → Q) : Q := by
  obtain ⟨p, h1, h2⟩ := Option.bind_eq_some_iff.1 h
  exact c p h1 h2
set_option maxHeartbeats 4000000 in
set_option maxRecDepth 100000 in
theorem steelyardlaw07_wakes.body {D : Dat} {C : Orc} (hD : D = real) (h21 : ∀ us u, steelyardkeep_Rat.R us u → C 21 us u) (h24 : ∀ us u, rat_Of.R us u → C 24 us u) (h28 : ∀ us u, rat_Good.R us u → C 28 us u) (h29 : ∀ us u, rat_Add.R us u → C 29 us u) (h30 : ∀ us u, rat_Div.R us u → C 30 us u) (h31 : ∀ us u, rat_Whole.R us u → C 31 us u) (h32 : ∀ us u, rat_Cmp.R us u → C 32 us u) (h35 : ∀ us u, rat_Mul.R us u → C 35 us u) (h41 : ∀ us u, rat_Sign.R us u → C 41 us u) (h45 : ∀ us u, rat_Same.R us u → C 45 us u) (h48 : ∀ us u, steelyardlaw07_By.R us u → C 48 us u) {us : List U} {u : U} (hR : steelyardlaw07_wakes.R us u) {Q : Prop} (hQ : body tys D C Try.f23 us u = Q) : Q := by
  obtain ⟨k, r, rfl, h, hu⟩ := hR
  obtain ⟨len, add, sub, mul, rem, neg, conv, max, eq, ne, lt, le, nth, zeros, copy, cpd, bor⟩ := D
  simp only [real, Dat.mk.injEq] at hD
  obtain ⟨elen, eadd, esub, emul, erem, eneg, econv, emax, eeq, ene, elt, ele, enth, ezeros, ecopy, ecpd, ebor⟩ := hD
  have hE := And.intro elen (And.intro eadd (And.intro esub (And.intro emul (And.intro erem (And.intro eneg (And.intro econv (And.intro ebor (And.intro emax (And.intro eeq (And.intro ene (And.intro elt ele)))))))))))
  unfold steelyardlaw07_wakes.f at h <;>
  (repeat' first
    | (simp (maxSteps := 2000000) only [↓reduceIte, Bool.false_eq_true, Bool.not_true, Bool.not_false, reduceCtorEq, b00, b01, b10, b11, n00, n01, n10, n11] at h; done)
    | (simp (maxSteps := 2000000) only [↓reduceIte, Bool.false_eq_true, Bool.not_true, Bool.not_false, Option.bind_some, splice_self, b00, b01, b10, b11, n00, n01, n10, n11] at h)
    | (rw [‹steelyardkeep_Rat.f _ _ _ _ _ _ _ = some _›] at h; simp only [Option.bind_some] at h)
    | (with_reducible refine steelyardkeep_Rat.E h ?_; clear h; rintro (_ | _) _ h)
    | (rw [‹rat_Of.f _ _ _ _ = some _›] at h; simp only [Option.bind_some] at h)
    | (with_reducible refine rat_Of.E h ?_; clear h; rintro _ _ _ _ _ h)
    | (rw [‹rat_Good.f _ _ _ _ = some _›] at h; simp only [Option.bind_some] at h)
    | (with_reducible refine rat_Good.E h ?_; clear h; rintro (_ | _) _ h)
    | (rw [‹rat_Add.f _ _ _ _ _ _ _ = some _›] at h; simp only [Option.bind_some] at h)
    | (with_reducible refine rat_Add.E h ?_; clear h; rintro _ _ _ _ _ h)
    | (with_reducible refine rat_Div.E h ?_; clear h; rintro _ _ _ _ _ h)
    | (with_reducible refine rat_Whole.E h ?_; clear h; rintro _ _ _ _ h)
    | (with_reducible refine rat_Cmp.E h ?_; clear h; rintro _ _ h)
    | (with_reducible refine rat_Mul.E h ?_; clear h; rintro _ _ _ _ _ h)
    | (with_reducible refine rat_Sign.E h ?_; clear h; rintro _ _ h)
    | (with_reducible refine rat_Same.E h ?_; clear h; rintro _ _ h)
    | (rw [‹steelyardlaw07_By.f _ _ _ = some _›] at h; simp only [Option.bind_some] at h)
    | (with_reducible refine steelyardlaw07_By.E h ?_; clear h; rintro _ _ _ _ h)
    | (simp (maxSteps := 2000000) only [↓reduceIte, Bool.false_eq_true, Bool.not_true, Bool.not_false, reduceCtorEq, decide_eq_true_eq, bne_iff_ne, ne_eq, beq_iff_eq, Option.bind_some, splice_self, b00, b01, b10, b11, n00, n01, n10, n11] at h)
    | (with_reducible refine iteE h ?_ ?_ <;> clear h <;> intro _ h)
    | (split at h)) <;>
  (injection h with h) <;>
  (try simp only [Prod.mk.injEq] at h) <;>
  (subst h) <;>
  (rw [← hQ]; clear hQ) <;>
  (cbv) <;>
  (repeat first
    | ((with_reducible refine Exists.intro _ (And.intro (h21 _ _ (steelyardkeep_Rat.I ‹_›)) ?_)); cbv)
    | ((with_reducible apply Exists.intro); (with_reducible apply And.intro); (· with_reducible apply h21; simp only [hE, w64, mxE]; exact steelyardkeep_Rat.I ‹_›); cbv)
    | ((with_reducible refine Exists.intro _ (And.intro (h21 _ _ (steelyardkeep_Rat.J ‹steelyardkeep_Rat.f _ _ _ _ _ _ _ = some _› ?_)) ?_)); (· first | (simp only [hE, w64, mxE]; done) | (simp only [hE, w64, mxE]; rfl)); cbv)
    | ((with_reducible refine Exists.intro _ (And.intro (h24 _ _ (rat_Of.I ‹_›)) ?_)); cbv)
    | ((with_reducible apply Exists.intro); (with_reducible apply And.intro); (· with_reducible apply h24; simp only [hE, w64, mxE]; exact rat_Of.I ‹_›); cbv)
    | ((with_reducible refine Exists.intro _ (And.intro (h24 _ _ (rat_Of.J ‹rat_Of.f _ _ _ _ = some _› ?_)) ?_)); (· first | (simp only [hE, w64, mxE]; done) | (simp only [hE, w64, mxE]; rfl)); cbv)
    | ((with_reducible refine Exists.intro _ (And.intro (h28 _ _ (rat_Good.I ‹_›)) ?_)); cbv)
    | ((with_reducible apply Exists.intro); (with_reducible apply And.intro); (· with_reducible apply h28; simp only [hE, w64, mxE]; exact rat_Good.I ‹_›); cbv)
    | ((with_reducible refine Exists.intro _ (And.intro (h28 _ _ (rat_Good.J ‹rat_Good.f _ _ _ _ = some _› ?_)) ?_)); (· first | (simp only [hE, w64, mxE]; done) | (simp only [hE, w64, mxE]; rfl)); cbv)
    | ((with_reducible refine Exists.intro _ (And.intro (h29 _ _ (rat_Add.I ‹_›)) ?_)); cbv)
    | ((with_reducible apply Exists.intro); (with_reducible apply And.intro); (· with_reducible apply h29; simp only [hE, w64, mxE]; exact rat_Add.I ‹_›); cbv)
    | ((with_reducible refine Exists.intro _ (And.intro (h29 _ _ (rat_Add.J ‹rat_Add.f _ _ _ _ _ _ _ = some _› ?_)) ?_)); (· first | (simp only [hE, w64, mxE]; done) | (simp only [hE, w64, mxE]; rfl)); cbv)
    | ((with_reducible refine Exists.intro _ (And.intro (h30 _ _ (rat_Div.I ‹_›)) ?_)); cbv)
    | ((with_reducible apply Exists.intro); (with_reducible apply And.intro); (· with_reducible apply h30; simp only [hE, w64, mxE]; exact rat_Div.I ‹_›); cbv)
    | ((with_reducible refine Exists.intro _ (And.intro (h30 _ _ (rat_Div.J ‹rat_Div.f _ _ _ _ _ _ _ = some _› ?_)) ?_)); (· first | (simp only [hE, w64, mxE]; done) | (simp only [hE, w64, mxE]; rfl)); cbv)
    | ((with_reducible refine Exists.intro _ (And.intro (h31 _ _ (rat_Whole.I ‹_›)) ?_)); cbv)
    | ((with_reducible apply Exists.intro); (with_reducible apply And.intro); (· with_reducible apply h31; simp only [hE, w64, mxE]; exact rat_Whole.I ‹_›); cbv)
    | ((with_reducible refine Exists.intro _ (And.intro (h31 _ _ (rat_Whole.J ‹rat_Whole.f _ _ = some _› ?_)) ?_)); (· first | (simp only [hE, w64, mxE]; done) | (simp only [hE, w64, mxE]; rfl)); cbv)
    | ((with_reducible refine Exists.intro _ (And.intro (h32 _ _ (rat_Cmp.I ‹_›)) ?_)); cbv)
    | ((with_reducible apply Exists.intro); (with_reducible apply And.intro); (· with_reducible apply h32; simp only [hE, w64, mxE]; exact rat_Cmp.I ‹_›); cbv)
    | ((with_reducible refine Exists.intro _ (And.intro (h32 _ _ (rat_Cmp.J ‹rat_Cmp.f _ _ _ _ _ _ _ = some _› ?_)) ?_)); (· first | (simp only [hE, w64, mxE]; done) | (simp only [hE, w64, mxE]; rfl)); cbv)
    | ((with_reducible refine Exists.intro _ (And.intro (h35 _ _ (rat_Mul.I ‹_›)) ?_)); cbv)
    | ((with_reducible apply Exists.intro); (with_reducible apply And.intro); (· with_reducible apply h35; simp only [hE, w64, mxE]; exact rat_Mul.I ‹_›); cbv)
    | ((with_reducible refine Exists.intro _ (And.intro (h35 _ _ (rat_Mul.J ‹rat_Mul.f _ _ _ _ _ _ _ = some _› ?_)) ?_)); (· first | (simp only [hE, w64, mxE]; done) | (simp only [hE, w64, mxE]; rfl)); cbv)
    | ((with_reducible refine Exists.intro _ (And.intro (h41 _ _ (rat_Sign.I ‹_›)) ?_)); cbv)
    | ((with_reducible apply Exists.intro); (with_reducible apply And.intro); (· with_reducible apply h41; simp only [hE, w64, mxE]; exact rat_Sign.I ‹_›); cbv)
    | ((with_reducible refine Exists.intro _ (And.intro (h41 _ _ (rat_Sign.J ‹rat_Sign.f _ _ _ _ = some _› ?_)) ?_)); (· first | (simp only [hE, w64, mxE]; done) | (simp only [hE, w64, mxE]; rfl)); cbv)
    | ((with_reducible refine Exists.intro _ (And.intro (h45 _ _ (rat_Same.I ‹_›)) ?_)); cbv)
    | ((with_reducible apply Exists.intro); (with_reducible apply And.intro); (· with_reducible apply h45; simp only [hE, w64, mxE]; exact rat_Same.I ‹_›); cbv)
    | ((with_reducible refine Exists.intro _ (And.intro (h45 _ _ (rat_Same.J ‹rat_Same.f _ _ _ _ _ _ _ = some _› ?_)) ?_)); (· first | (simp only [hE, w64, mxE]; done) | (simp only [hE, w64, mxE]; rfl)); cbv)
    | ((with_reducible refine Exists.intro _ (And.intro (h48 _ _ (steelyardlaw07_By.I ‹_›)) ?_)); cbv)
    | ((with_reducible apply Exists.intro); (with_reducible apply And.intro); (· with_reducible apply h48; simp only [hE, w64, mxE]; exact steelyardlaw07_By.I ‹_›); cbv)
    | ((with_reducible refine Exists.intro _ (And.intro (h48 _ _ (steelyardlaw07_By.J ‹steelyardlaw07_By.f _ _ _ = some _› ?_)) ?_)); (· first | (simp only [hE, w64, mxE]; done) | (simp only [hE, w64, mxE]; rfl)); cbv)
    | ((with_reducible refine t1 ?_ ?_); (· (simp only [hE, w64, decide_eq_true_eq, decide_eq_false_iff_not]; first | assumption | omega)); intro hb_; (try simp only [hb_]); cbv)
    | ((with_reducible refine t2 ?_ ?_); (· (simp only [hE, w64, decide_eq_true_eq, decide_eq_false_iff_not]; first | assumption | omega)); intro hb_; (try simp only [hb_]); cbv)
    | ((with_reducible refine t3 ?_ ?_); (· (simp only [hE, w64, decide_eq_true_eq, decide_eq_false_iff_not]; first | assumption | omega)); intro hb_; (try simp only [hb_]); cbv)
    | ((with_reducible refine t4 ?_ ?_); (· (simp only [hE, w64, decide_eq_true_eq, decide_eq_false_iff_not]; first | assumption | omega)); intro hb_; (try simp only [hb_]); cbv)
    | (rw [hu]; done)
    | (rw [hu]; simp only [hE, w64]; done)
    | (rw [hu]; simp only [hE, w64]; rfl)
    | (rw [hu]; simp only [hE, w64, Option.some.injEq, U.agg.injEq, U.tup.injEq, U.v.injEq, List.cons.injEq, Value.bool.injEq, and_true, true_and, decide_eq_true_eq, decide_eq_false_iff_not]; first | assumption | omega))
theorem steelyardlaw07_wakes.sound : SoundF Try.prog 23 steelyardlaw07_wakes.R :=
  Den.sound (l := [(21, steelyardkeep_Rat.R), (24, rat_Of.R), (28, rat_Good.R), (29, rat_Add.R), (30, rat_Div.R), (31, rat_Whole.R), (32, rat_Cmp.R), (35, rat_Mul.R), (41, rat_Sign.R), (45, rat_Same.R), (48, steelyardlaw07_By.R)]) (orc_cons steelyardkeep_Rat.sound (orc_cons rat_Of.sound (orc_cons rat_Good.sound (orc_cons rat_Add.sound (orc_cons rat_Div.sound (orc_cons rat_Whole.sound (orc_cons rat_Cmp.sound (orc_cons rat_Mul.sound (orc_cons rat_Sign.sound (orc_cons rat_Same.sound (orc_cons steelyardlaw07_By.sound (orc_nil)))))))))))) Try.func23 (by kernel_rfl) (by kernel_rfl) (by decide +kernel) fun _ _ hR => steelyardlaw07_wakes.body rfl (fun _ _ h => (.inl ⟨rfl, h⟩)) (fun _ _ h => (.inr (.inl ⟨rfl, h⟩))) (fun _ _ h => (.inr (.inr (.inl ⟨rfl, h⟩)))) (fun _ _ h => (.inr (.inr (.inr (.inl ⟨rfl, h⟩))))) (fun _ _ h => (.inr (.inr (.inr (.inr (.inl ⟨rfl, h⟩)))))) (fun _ _ h => (.inr (.inr (.inr (.inr (.inr (.inl ⟨rfl, h⟩))))))) (fun _ _ h => (.inr (.inr (.inr (.inr (.inr (.inr (.inl ⟨rfl, h⟩)))))))) (fun _ _ h => (.inr (.inr (.inr (.inr (.inr (.inr (.inr (.inl ⟨rfl, h⟩))))))))) (fun _ _ h => (.inr (.inr (.inr (.inr (.inr (.inr (.inr (.inr (.inl ⟨rfl, h⟩)))))))))) (fun _ _ h => (.inr (.inr (.inr (.inr (.inr (.inr (.inr (.inr (.inr (.inl ⟨rfl, h⟩))))))))))) (fun _ _ h => (.inr (.inr (.inr (.inr (.inr (.inr (.inr (.inr (.inr (.inr (.inl ⟨rfl, h⟩)))))))))))) hR rfl
end Go.Proofs.Yticngjjdjmadgaa.PU
end
section
set_option linter.unusedVariables false
set_option linter.unusedSimpArgs false
namespace Go.Proofs.Yticngjjdjmadgaa.PU
open Go Go.RowKit Go.Proofs.YticngjjdjmadgaaW.PrintWords Go.Proofs.YticngjjdjmadgaaW.PrintMore Go.Proofs.Yticngjjdjmadgaa.Den Go.Proofs.Yticngjjdjmadgaa.PL
def steelyardkeep_OwnInt.R (us : List U) (u : U) : Prop := ∃ (a0_0 : Bool) (l0_1 : List Int) (r1 : Bool) (r2 : List Int), us = [.agg [.v (.bool a0_0), .l l0_1]] ∧ steelyardkeep_OwnInt.f a0_0 l0_1 = some (r1, r2) ∧ u = .agg [.v (.bool r1), .l r2]
theorem steelyardkeep_OwnInt.I {a0_0 : Bool} {l0_1 : List Int} {r1 : Bool} {r2 : List Int} (h : steelyardkeep_OwnInt.f a0_0 l0_1 = some (r1, r2)) : steelyardkeep_OwnInt.R [.agg [.v (.bool a0_0), .l l0_1]] (.agg [.v (.bool r1), .l r2]) := ⟨_, _, _, _, rfl, h, rfl⟩
theorem steelyardkeep_OwnInt.J {a0_0 : Bool} {l0_1 : List Int} {r1 : Bool} {r2 : List Int} (h : steelyardkeep_OwnInt.f a0_0 l0_1 = some (r1, r2)) {us : List U} (hus : us = [.agg [.v (.bool a0_0), .l l0_1]]) : steelyardkeep_OwnInt.R us (.agg [.v (.bool r1), .l r2]) := ⟨_, _, _, _, hus, h, rfl⟩
theorem steelyardkeep_OwnInt.E {β : Type} {a0_0 : Bool} {l0_1 : List Int} {g : Bool × List Int → Option β} {z : β} {Q : Prop} (h : (steelyardkeep_OwnInt.f a0_0 l0_1).bind g = some z) (c : ∀ (r1 : Bool) (r2 : List Int), steelyardkeep_OwnInt.f a0_0 l0_1 = some (r1, r2) → g (r1, r2) = some z → Q) : Q := by
  obtain ⟨p, h1, h2⟩ := Option.bind_eq_some_iff.1 h
  exact c p.1 p.2 h1 h2
set_option maxHeartbeats 4000000 in
set_option maxRecDepth 100000 in
theorem steelyardkeep_OwnInt.body {D : Dat} {C : Orc} (hD : D = real) (h26 : ∀ us u, steelyardkeep_OwnNat.R us u → C 26 us u) {us : List U} {u : U} (hR : steelyardkeep_OwnInt.R us u) {Q : Prop} (hQ : body tys D C Try.f25 us u = Q) : Q := by
  obtain ⟨a0_0, l0_1, r1, r2, rfl, h, hu⟩ := hR
  obtain ⟨len, add, sub, mul, rem, neg, conv, max, eq, ne, lt, le, nth, zeros, copy, cpd, bor⟩ := D
  simp only [real, Dat.mk.injEq] at hD
  obtain ⟨elen, eadd, esub, emul, erem, eneg, econv, emax, eeq, ene, elt, ele, enth, ezeros, ecopy, ecpd, ebor⟩ := hD
  have hE := And.intro elen (And.intro eadd (And.intro esub (And.intro emul (And.intro erem (And.intro eneg (And.intro econv (And.intro ebor (And.intro emax (And.intro eeq (And.intro ene (And.intro elt ele)))))))))))
  cases a0_0 <;>
  unfold steelyardkeep_OwnInt.f at h <;>
  (repeat' first
    | (simp (maxSteps := 2000000) only [↓reduceIte, Bool.false_eq_true, Bool.not_true, Bool.not_false, reduceCtorEq, b00, b01, b10, b11, n00, n01, n10, n11] at h; done)
    | (simp (maxSteps := 2000000) only [↓reduceIte, Bool.false_eq_true, Bool.not_true, Bool.not_false, Option.bind_some, splice_self, b00, b01, b10, b11, n00, n01, n10, n11] at h)
    | (with_reducible refine steelyardkeep_OwnNat.E h ?_; clear h; rintro _ _ h)
    | (simp (maxSteps := 2000000) only [↓reduceIte, Bool.false_eq_true, Bool.not_true, Bool.not_false, reduceCtorEq, decide_eq_true_eq, bne_iff_ne, ne_eq, beq_iff_eq, Option.bind_some, splice_self, b00, b01, b10, b11, n00, n01, n10, n11] at h)
    | (with_reducible refine iteE h ?_ ?_ <;> clear h <;> intro _ h)
    | (split at h)) <;>
  (injection h with h) <;>
  (try simp only [Prod.mk.injEq] at h) <;>
  (obtain ⟨rfl, rfl⟩ := h) <;>
  (rw [← hQ]; clear hQ) <;>
  (cbv) <;>
  (repeat first
    | ((with_reducible refine Exists.intro _ (And.intro (h26 _ _ (steelyardkeep_OwnNat.I ‹_›)) ?_)); cbv)
    | ((with_reducible apply Exists.intro); (with_reducible apply And.intro); (· with_reducible apply h26; simp only [hE, w64, mxE]; exact steelyardkeep_OwnNat.I ‹_›); cbv)
    | ((with_reducible refine Exists.intro _ (And.intro (h26 _ _ (steelyardkeep_OwnNat.J ‹steelyardkeep_OwnNat.f _ = some _› ?_)) ?_)); (· first | (simp only [hE, w64, mxE]; done) | (simp only [hE, w64, mxE]; rfl)); cbv)
    | ((with_reducible refine t1 ?_ ?_); (· (simp only [hE, w64, decide_eq_true_eq, decide_eq_false_iff_not]; first | assumption | omega)); intro hb_; (try simp only [hb_]); cbv)
    | ((with_reducible refine t2 ?_ ?_); (· (simp only [hE, w64, decide_eq_true_eq, decide_eq_false_iff_not]; first | assumption | omega)); intro hb_; (try simp only [hb_]); cbv)
    | ((with_reducible refine t3 ?_ ?_); (· (simp only [hE, w64, decide_eq_true_eq, decide_eq_false_iff_not]; first | assumption | omega)); intro hb_; (try simp only [hb_]); cbv)
    | ((with_reducible refine t4 ?_ ?_); (· (simp only [hE, w64, decide_eq_true_eq, decide_eq_false_iff_not]; first | assumption | omega)); intro hb_; (try simp only [hb_]); cbv)
    | (rw [hu]; done)
    | (rw [hu]; simp only [hE, w64]; done)
    | (rw [hu]; simp only [hE, w64]; rfl)
    | (rw [hu]; simp only [hE, w64, Option.some.injEq, U.agg.injEq, U.tup.injEq, U.v.injEq, List.cons.injEq, Value.bool.injEq, and_true, true_and, decide_eq_true_eq, decide_eq_false_iff_not]; first | assumption | omega))
theorem steelyardkeep_OwnInt.sound : SoundF Try.prog 25 steelyardkeep_OwnInt.R :=
  Den.sound (l := [(26, steelyardkeep_OwnNat.R)]) (orc_cons steelyardkeep_OwnNat.sound (orc_nil)) Try.func25 (by kernel_rfl) (by kernel_rfl) (by decide +kernel) fun _ _ hR => steelyardkeep_OwnInt.body rfl (fun _ _ h => (.inl ⟨rfl, h⟩)) hR rfl
end Go.Proofs.Yticngjjdjmadgaa.PU
end
section
set_option linter.unusedVariables false
set_option linter.unusedSimpArgs false
namespace Go.Proofs.Yticngjjdjmadgaa.PU
open Go Go.RowKit Go.Proofs.YticngjjdjmadgaaW.PrintWords Go.Proofs.YticngjjdjmadgaaW.PrintMore Go.Proofs.Yticngjjdjmadgaa.Den Go.Proofs.Yticngjjdjmadgaa.PL
def steelyardref07_Of.R (us : List U) (u : U) : Prop := ∃ (k : Nat) (a0_0 : Bool) (l0_1 : List Int) (l1 : List Int) (r1 : Bool) (r2 : List Int) (r3 : List Int) (r4 : Int), us = [.agg [.v (.bool a0_0), .l l0_1], .l l1] ∧ steelyardref07_Of.f k a0_0 l0_1 l1 = some (r1, r2, r3, r4) ∧ u = .agg [.v (.bool r1), .l r2, .l r3, .v (.int .i64 r4)]
theorem steelyardref07_Of.I {k : Nat} {a0_0 : Bool} {l0_1 : List Int} {l1 : List Int} {r1 : Bool} {r2 : List Int} {r3 : List Int} {r4 : Int} (h : steelyardref07_Of.f k a0_0 l0_1 l1 = some (r1, r2, r3, r4)) : steelyardref07_Of.R [.agg [.v (.bool a0_0), .l l0_1], .l l1] (.agg [.v (.bool r1), .l r2, .l r3, .v (.int .i64 r4)]) := ⟨_, _, _, _, _, _, _, _, rfl, h, rfl⟩
theorem steelyardref07_Of.J {k : Nat} {a0_0 : Bool} {l0_1 : List Int} {l1 : List Int} {r1 : Bool} {r2 : List Int} {r3 : List Int} {r4 : Int} (h : steelyardref07_Of.f k a0_0 l0_1 l1 = some (r1, r2, r3, r4)) {us : List U} (hus : us = [.agg [.v (.bool a0_0), .l l0_1], .l l1]) : steelyardref07_Of.R us (.agg [.v (.bool r1), .l r2, .l r3, .v (.int .i64 r4)]) := ⟨_, _, _, _, _, _, _, _, hus, h, rfl⟩
theorem steelyardref07_Of.E {β : Type} {k : Nat} {a0_0 : Bool} {l0_1 : List Int} {l1 : List Int} {g : Bool × List Int × List Int × Int → Option β} {z : β} {Q : Prop} (h : (steelyardref07_Of.f k a0_0 l0_1 l1).bind g = some z) (c : ∀ (r1 : Bool) (r2 : List Int) (r3 : List Int) (r4 : Int), steelyardref07_Of.f k a0_0 l0_1 l1 = some (r1, r2, r3, r4) → g (r1, r2, r3, r4) = some z → Q) : Q := by
  obtain ⟨p, h1, h2⟩ := Option.bind_eq_some_iff.1 h
  exact c p.1 p.2.1 p.2.2.1 p.2.2.2 h1 h2
set_option maxHeartbeats 4000000 in
set_option maxRecDepth 100000 in
theorem steelyardref07_Of.body {D : Dat} {C : Orc} (hD : D = real) (h54 : ∀ us u, steelyardref07_Limit.R us u → C 54 us u) (h68 : ∀ us u, steelyardref01_Bits.R us u → C 68 us u) (h69 : ∀ us u, steelyardref07_Wide.R us u → C 69 us u) {us : List U} {u : U} (hR : steelyardref07_Of.R us u) {Q : Prop} (hQ : body tys D C Try.f27 us u = Q) : Q := by
  obtain ⟨k, a0_0, l0_1, l1, r1, r2, r3, r4, rfl, h, hu⟩ := hR
  obtain ⟨len, add, sub, mul, rem, neg, conv, max, eq, ne, lt, le, nth, zeros, copy, cpd, bor⟩ := D
  simp only [real, Dat.mk.injEq] at hD
  obtain ⟨elen, eadd, esub, emul, erem, eneg, econv, emax, eeq, ene, elt, ele, enth, ezeros, ecopy, ecpd, ebor⟩ := hD
  have hE := And.intro elen (And.intro eadd (And.intro esub (And.intro emul (And.intro erem (And.intro eneg (And.intro econv (And.intro ebor (And.intro emax (And.intro eeq (And.intro ene (And.intro elt ele)))))))))))
  cases a0_0 <;>
  unfold steelyardref07_Of.f at h <;>
  (repeat' first
    | (simp (maxSteps := 2000000) only [↓reduceIte, Bool.false_eq_true, Bool.not_true, Bool.not_false, reduceCtorEq, b00, b01, b10, b11, n00, n01, n10, n11] at h; done)
    | (simp (maxSteps := 2000000) only [↓reduceIte, Bool.false_eq_true, Bool.not_true, Bool.not_false, Option.bind_some, splice_self, b00, b01, b10, b11, n00, n01, n10, n11] at h)
    | (with_reducible refine steelyardref07_Limit.E h ?_; clear h; rintro _ _ _ _ _ h)
    | (with_reducible refine steelyardref01_Bits.E h ?_; clear h; rintro _ _ h)
    | (with_reducible refine steelyardref07_Wide.E h ?_; clear h; rintro _ _ _ _ h)
    | (simp (maxSteps := 2000000) only [↓reduceIte, Bool.false_eq_true, Bool.not_true, Bool.not_false, reduceCtorEq, decide_eq_true_eq, bne_iff_ne, ne_eq, beq_iff_eq, Option.bind_some, splice_self, b00, b01, b10, b11, n00, n01, n10, n11] at h)
    | (with_reducible refine iteE h ?_ ?_ <;> clear h <;> intro _ h)
    | (split at h)) <;>
  (injection h with h) <;>
  (try simp only [Prod.mk.injEq] at h) <;>
  (obtain ⟨rfl, rfl, rfl, rfl⟩ := h) <;>
  (rw [← hQ]; clear hQ) <;>
  (cbv) <;>
  (repeat first
    | ((with_reducible refine Exists.intro _ (And.intro (h54 _ _ (steelyardref07_Limit.I ‹_›)) ?_)); cbv)
    | ((with_reducible apply Exists.intro); (with_reducible apply And.intro); (· with_reducible apply h54; simp only [hE, w64, mxE]; exact steelyardref07_Limit.I ‹_›); cbv)
    | ((with_reducible refine Exists.intro _ (And.intro (h54 _ _ (steelyardref07_Limit.J ‹steelyardref07_Limit.f _ _ _ = some _› ?_)) ?_)); (· first | (simp only [hE, w64, mxE]; done) | (simp only [hE, w64, mxE]; rfl)); cbv)
    | ((with_reducible refine Exists.intro _ (And.intro (h68 _ _ (steelyardref01_Bits.I ‹_›)) ?_)); cbv)
    | ((with_reducible apply Exists.intro); (with_reducible apply And.intro); (· with_reducible apply h68; simp only [hE, w64, mxE]; exact steelyardref01_Bits.I ‹_›); cbv)
    | ((with_reducible refine Exists.intro _ (And.intro (h68 _ _ (steelyardref01_Bits.J ‹steelyardref01_Bits.f _ _ = some _› ?_)) ?_)); (· first | (simp only [hE, w64, mxE]; done) | (simp only [hE, w64, mxE]; rfl)); cbv)
    | ((with_reducible refine Exists.intro _ (And.intro (h69 _ _ (steelyardref07_Wide.I ‹_›)) ?_)); cbv)
    | ((with_reducible apply Exists.intro); (with_reducible apply And.intro); (· with_reducible apply h69; simp only [hE, w64, mxE]; exact steelyardref07_Wide.I ‹_›); cbv)
    | ((with_reducible refine Exists.intro _ (And.intro (h69 _ _ (steelyardref07_Wide.J ‹steelyardref07_Wide.f _ _ _ _ = some _› ?_)) ?_)); (· first | (simp only [hE, w64, mxE]; done) | (simp only [hE, w64, mxE]; rfl)); cbv)
    | ((with_reducible refine t1 ?_ ?_); (· (simp only [hE, w64, decide_eq_true_eq, decide_eq_false_iff_not]; first | assumption | omega)); intro hb_; (try simp only [hb_]); cbv)
    | ((with_reducible refine t2 ?_ ?_); (· (simp only [hE, w64, decide_eq_true_eq, decide_eq_false_iff_not]; first | assumption | omega)); intro hb_; (try simp only [hb_]); cbv)
    | ((with_reducible refine t3 ?_ ?_); (· (simp only [hE, w64, decide_eq_true_eq, decide_eq_false_iff_not]; first | assumption | omega)); intro hb_; (try simp only [hb_]); cbv)
    | ((with_reducible refine t4 ?_ ?_); (· (simp only [hE, w64, decide_eq_true_eq, decide_eq_false_iff_not]; first | assumption | omega)); intro hb_; (try simp only [hb_]); cbv)
    | (rw [hu]; done)
    | (rw [hu]; simp only [hE, w64]; done)
    | (rw [hu]; simp only [hE, w64]; rfl)
    | (rw [hu]; simp only [hE, w64, Option.some.injEq, U.agg.injEq, U.tup.injEq, U.v.injEq, List.cons.injEq, Value.bool.injEq, and_true, true_and, decide_eq_true_eq, decide_eq_false_iff_not]; first | assumption | omega))
theorem steelyardref07_Of.sound : SoundF Try.prog 27 steelyardref07_Of.R :=
  Den.sound (l := [(54, steelyardref07_Limit.R), (68, steelyardref01_Bits.R), (69, steelyardref07_Wide.R)]) (orc_cons steelyardref07_Limit.sound (orc_cons steelyardref01_Bits.sound (orc_cons steelyardref07_Wide.sound (orc_nil)))) Try.func27 (by kernel_rfl) (by kernel_rfl) (by decide +kernel) fun _ _ hR => steelyardref07_Of.body rfl (fun _ _ h => (.inl ⟨rfl, h⟩)) (fun _ _ h => (.inr (.inl ⟨rfl, h⟩))) (fun _ _ h => (.inr (.inr (.inl ⟨rfl, h⟩)))) hR rfl
end Go.Proofs.Yticngjjdjmadgaa.PU
end
section
set_option linter.unusedVariables false
set_option linter.unusedSimpArgs false
namespace Go.Proofs.Yticngjjdjmadgaa.PU
open Go Go.RowKit Go.Proofs.YticngjjdjmadgaaW.PrintWords Go.Proofs.YticngjjdjmadgaaW.PrintMore Go.Proofs.Yticngjjdjmadgaa.Den Go.Proofs.Yticngjjdjmadgaa.PL
def steelyardlaw07_RatMakes.j0 : Nat → List Int → Bool → Bool → List Int → Option (Bool)
  | 0, _, _, _, _ => none
  | k + 1, x1, x23, x958000, x958001 => if x23 = true then ((steelyardlaw07_wakes.f k).bind fun t958 => (some t958)) else ((steelyardkeep_OwnInt.f x958000 x958001).bind fun bt959 => ((steelyardkeep_OwnNat.f x1).bind fun t963 => ((rat_Of.f k bt959.1 bt959.2 t963).bind fun bt966 => ((steelyardref07_Of.f k x958000 x958001 x1).bind fun bt975 => ((steelyardkeep_Rat.f k bt966.1 bt966.2.1 bt966.2.2.1 bt975.1 bt975.2.1 bt975.2.2.1).bind fun t984 => (if t984 = true then (if bt966.2.2.2 = bt975.2.2.2 then (if bt966.2.2.2 = 0 then ((rat_Good.f k bt966.1 bt966.2.1 bt966.2.2.1).bind fun t985 => (if t985 = true then ((steelyardlaw07_wakes.f k).bind fun t986 => (some t986)) else (some false))) else ((steelyardlaw07_wakes.f k).bind fun t987 => (some t987))) else (some false)) else (some false)))))))
def steelyardlaw07_RatMakes.f (k : Nat) (a0_0 : Bool) (l0_1 : List Int) (l1 : List Int) (l2 : List Int) : Option (Bool) := if (l0_1.length : Int) > 80 then (steelyardlaw07_RatMakes.j0 k l1 true a0_0 l0_1) else (if (l1.length : Int) > 80 then (steelyardlaw07_RatMakes.j0 k l1 true a0_0 l0_1) else (if (l2.length : Int) > 20 then (steelyardlaw07_RatMakes.j0 k l1 true a0_0 l0_1) else (steelyardlaw07_RatMakes.j0 k l1 false a0_0 l0_1)))
def steelyardlaw07_RatMakes.R (us : List U) (u : U) : Prop := ∃ (k : Nat) (a0_0 : Bool) (l0_1 : List Int) (l1 : List Int) (l2 : List Int) (r : Bool), us = [.agg [.v (.bool a0_0), .l l0_1], .l l1, .l l2] ∧ steelyardlaw07_RatMakes.f k a0_0 l0_1 l1 l2 = some r ∧ u = .v (.bool r)
theorem steelyardlaw07_RatMakes.I {k : Nat} {a0_0 : Bool} {l0_1 : List Int} {l1 : List Int} {l2 : List Int} {r : Bool} (h : steelyardlaw07_RatMakes.f k a0_0 l0_1 l1 l2 = some r) : steelyardlaw07_RatMakes.R [.agg [.v (.bool a0_0), .l l0_1], .l l1, .l l2] (.v (.bool r)) := ⟨_, _, _, _, _, _, rfl, h, rfl⟩
theorem steelyardlaw07_RatMakes.J {k : Nat} {a0_0 : Bool} {l0_1 : List Int} {l1 : List Int} {l2 : List Int} {r : Bool} (h : steelyardlaw07_RatMakes.f k a0_0 l0_1 l1 l2 = some r) {us : List U} (hus : us = [.agg [.v (.bool a0_0), .l l0_1], .l l1, .l l2]) : steelyardlaw07_RatMakes.R us (.v (.bool r)) := ⟨_, _, _, _, _, _, hus, h, rfl⟩
theorem steelyardlaw07_RatMakes.E {β : Type} {k : Nat} {a0_0 : Bool} {l0_1 : List Int} {l1 : List Int} {l2 : List Int} {g : Bool → Option β} {z : β} {Q : Prop} (h : (steelyardlaw07_RatMakes.f k a0_0 l0_1 l1 l2).bind g = some z) (c : ∀ (r : Bool), steelyardlaw07_RatMakes.f k a0_0 l0_1 l1 l2 = some r → g r = some z → Q) : Q := by
  obtain ⟨p, h1, h2⟩ := Option.bind_eq_some_iff.1 h
  exact c p h1 h2
set_option maxHeartbeats 4000000 in
set_option maxRecDepth 100000 in
theorem steelyardlaw07_RatMakes.body {D : Dat} {C : Orc} (hD : D = real) (h21 : ∀ us u, steelyardkeep_Rat.R us u → C 21 us u) (h23 : ∀ us u, steelyardlaw07_wakes.R us u → C 23 us u) (h24 : ∀ us u, rat_Of.R us u → C 24 us u) (h25 : ∀ us u, steelyardkeep_OwnInt.R us u → C 25 us u) (h26 : ∀ us u, steelyardkeep_OwnNat.R us u → C 26 us u) (h27 : ∀ us u, steelyardref07_Of.R us u → C 27 us u) (h28 : ∀ us u, rat_Good.R us u → C 28 us u) {us : List U} {u : U} (hR : steelyardlaw07_RatMakes.R us u) {Q : Prop} (hQ : body tys D C Try.f5 us u = Q) : Q := by
  obtain ⟨k, a0_0, l0_1, l1, l2, r, rfl, h, hu⟩ := hR
  obtain ⟨len, add, sub, mul, rem, neg, conv, max, eq, ne, lt, le, nth, zeros, copy, cpd, bor⟩ := D
  simp only [real, Dat.mk.injEq] at hD
  obtain ⟨elen, eadd, esub, emul, erem, eneg, econv, emax, eeq, ene, elt, ele, enth, ezeros, ecopy, ecpd, ebor⟩ := hD
  have hE := And.intro elen (And.intro eadd (And.intro esub (And.intro emul (And.intro erem (And.intro eneg (And.intro econv (And.intro ebor (And.intro emax (And.intro eeq (And.intro ene (And.intro elt ele)))))))))))
  cases a0_0 <;>
  unfold steelyardlaw07_RatMakes.f at h <;>
  (repeat' first
    | (simp (maxSteps := 2000000) only [↓reduceIte, Bool.false_eq_true, Bool.not_true, Bool.not_false, reduceCtorEq, b00, b01, b10, b11, n00, n01, n10, n11] at h; done)
    | (simp (maxSteps := 2000000) only [↓reduceIte, Bool.false_eq_true, Bool.not_true, Bool.not_false, Option.bind_some, splice_self, b00, b01, b10, b11, n00, n01, n10, n11] at h)
    | (with_reducible refine steelyardkeep_Rat.E h ?_; clear h; rintro (_ | _) _ h)
    | (rw [‹steelyardlaw07_wakes.f _ = some _›] at h; simp only [Option.bind_some] at h)
    | (with_reducible refine steelyardlaw07_wakes.E h ?_; clear h; rintro _ _ h)
    | (with_reducible refine rat_Of.E h ?_; clear h; rintro _ _ _ _ _ h)
    | (with_reducible refine steelyardkeep_OwnInt.E h ?_; clear h; rintro _ _ _ h)
    | (with_reducible refine steelyardkeep_OwnNat.E h ?_; clear h; rintro _ _ h)
    | (with_reducible refine steelyardref07_Of.E h ?_; clear h; rintro _ _ _ _ _ h)
    | (with_reducible refine rat_Good.E h ?_; clear h; rintro (_ | _) _ h)
    | (unfold steelyardlaw07_RatMakes.j0 at h)
    | (simp (maxSteps := 2000000) only [↓reduceIte, Bool.false_eq_true, Bool.not_true, Bool.not_false, reduceCtorEq, decide_eq_true_eq, bne_iff_ne, ne_eq, beq_iff_eq, Option.bind_some, splice_self, b00, b01, b10, b11, n00, n01, n10, n11] at h)
    | (with_reducible refine iteE h ?_ ?_ <;> clear h <;> intro _ h)
    | (split at h)) <;>
  (injection h with h) <;>
  (try simp only [Prod.mk.injEq] at h) <;>
  (subst h) <;>
  (rw [← hQ]; clear hQ) <;>
  (cbv) <;>
  (repeat first
    | ((with_reducible refine Exists.intro _ (And.intro (h21 _ _ (steelyardkeep_Rat.I ‹_›)) ?_)); cbv)
    | ((with_reducible apply Exists.intro); (with_reducible apply And.intro); (· with_reducible apply h21; simp only [hE, w64, mxE]; exact steelyardkeep_Rat.I ‹_›); cbv)
    | ((with_reducible refine Exists.intro _ (And.intro (h21 _ _ (steelyardkeep_Rat.J ‹steelyardkeep_Rat.f _ _ _ _ _ _ _ = some _› ?_)) ?_)); (· first | (simp only [hE, w64, mxE]; done) | (simp only [hE, w64, mxE]; rfl)); cbv)
    | ((with_reducible refine Exists.intro _ (And.intro (h23 _ _ (steelyardlaw07_wakes.I ‹_›)) ?_)); cbv)
    | ((with_reducible apply Exists.intro); (with_reducible apply And.intro); (· with_reducible apply h23; simp only [hE, w64, mxE]; exact steelyardlaw07_wakes.I ‹_›); cbv)
    | ((with_reducible refine Exists.intro _ (And.intro (h23 _ _ (steelyardlaw07_wakes.J ‹steelyardlaw07_wakes.f _ = some _› ?_)) ?_)); (· first | (simp only [hE, w64, mxE]; done) | (simp only [hE, w64, mxE]; rfl)); cbv)
    | ((with_reducible refine Exists.intro _ (And.intro (h24 _ _ (rat_Of.I ‹_›)) ?_)); cbv)
    | ((with_reducible apply Exists.intro); (with_reducible apply And.intro); (· with_reducible apply h24; simp only [hE, w64, mxE]; exact rat_Of.I ‹_›); cbv)
    | ((with_reducible refine Exists.intro _ (And.intro (h24 _ _ (rat_Of.J ‹rat_Of.f _ _ _ _ = some _› ?_)) ?_)); (· first | (simp only [hE, w64, mxE]; done) | (simp only [hE, w64, mxE]; rfl)); cbv)
    | ((with_reducible refine Exists.intro _ (And.intro (h25 _ _ (steelyardkeep_OwnInt.I ‹_›)) ?_)); cbv)
    | ((with_reducible apply Exists.intro); (with_reducible apply And.intro); (· with_reducible apply h25; simp only [hE, w64, mxE]; exact steelyardkeep_OwnInt.I ‹_›); cbv)
    | ((with_reducible refine Exists.intro _ (And.intro (h25 _ _ (steelyardkeep_OwnInt.J ‹steelyardkeep_OwnInt.f _ _ = some _› ?_)) ?_)); (· first | (simp only [hE, w64, mxE]; done) | (simp only [hE, w64, mxE]; rfl)); cbv)
    | ((with_reducible refine Exists.intro _ (And.intro (h26 _ _ (steelyardkeep_OwnNat.I ‹_›)) ?_)); cbv)
    | ((with_reducible apply Exists.intro); (with_reducible apply And.intro); (· with_reducible apply h26; simp only [hE, w64, mxE]; exact steelyardkeep_OwnNat.I ‹_›); cbv)
    | ((with_reducible refine Exists.intro _ (And.intro (h26 _ _ (steelyardkeep_OwnNat.J ‹steelyardkeep_OwnNat.f _ = some _› ?_)) ?_)); (· first | (simp only [hE, w64, mxE]; done) | (simp only [hE, w64, mxE]; rfl)); cbv)
    | ((with_reducible refine Exists.intro _ (And.intro (h27 _ _ (steelyardref07_Of.I ‹_›)) ?_)); cbv)
    | ((with_reducible apply Exists.intro); (with_reducible apply And.intro); (· with_reducible apply h27; simp only [hE, w64, mxE]; exact steelyardref07_Of.I ‹_›); cbv)
    | ((with_reducible refine Exists.intro _ (And.intro (h27 _ _ (steelyardref07_Of.J ‹steelyardref07_Of.f _ _ _ _ = some _› ?_)) ?_)); (· first | (simp only [hE, w64, mxE]; done) | (simp only [hE, w64, mxE]; rfl)); cbv)
    | ((with_reducible refine Exists.intro _ (And.intro (h28 _ _ (rat_Good.I ‹_›)) ?_)); cbv)
    | ((with_reducible apply Exists.intro); (with_reducible apply And.intro); (· with_reducible apply h28; simp only [hE, w64, mxE]; exact rat_Good.I ‹_›); cbv)
    | ((with_reducible refine Exists.intro _ (And.intro (h28 _ _ (rat_Good.J ‹rat_Good.f _ _ _ _ = some _› ?_)) ?_)); (· first | (simp only [hE, w64, mxE]; done) | (simp only [hE, w64, mxE]; rfl)); cbv)
    | ((with_reducible refine t1 ?_ ?_); (· (simp only [hE, w64, decide_eq_true_eq, decide_eq_false_iff_not]; first | assumption | omega)); intro hb_; (try simp only [hb_]); cbv)
    | ((with_reducible refine t2 ?_ ?_); (· (simp only [hE, w64, decide_eq_true_eq, decide_eq_false_iff_not]; first | assumption | omega)); intro hb_; (try simp only [hb_]); cbv)
    | ((with_reducible refine t3 ?_ ?_); (· (simp only [hE, w64, decide_eq_true_eq, decide_eq_false_iff_not]; first | assumption | omega)); intro hb_; (try simp only [hb_]); cbv)
    | ((with_reducible refine t4 ?_ ?_); (· (simp only [hE, w64, decide_eq_true_eq, decide_eq_false_iff_not]; first | assumption | omega)); intro hb_; (try simp only [hb_]); cbv)
    | (rw [hu]; done)
    | (rw [hu]; simp only [hE, w64]; done)
    | (rw [hu]; simp only [hE, w64]; rfl)
    | (rw [hu]; simp only [hE, w64, Option.some.injEq, U.agg.injEq, U.tup.injEq, U.v.injEq, List.cons.injEq, Value.bool.injEq, and_true, true_and, decide_eq_true_eq, decide_eq_false_iff_not]; first | assumption | omega))
theorem steelyardlaw07_RatMakes.sound : SoundF Try.prog 5 steelyardlaw07_RatMakes.R :=
  Den.sound (l := [(21, steelyardkeep_Rat.R), (23, steelyardlaw07_wakes.R), (24, rat_Of.R), (25, steelyardkeep_OwnInt.R), (26, steelyardkeep_OwnNat.R), (27, steelyardref07_Of.R), (28, rat_Good.R)]) (orc_cons steelyardkeep_Rat.sound (orc_cons steelyardlaw07_wakes.sound (orc_cons rat_Of.sound (orc_cons steelyardkeep_OwnInt.sound (orc_cons steelyardkeep_OwnNat.sound (orc_cons steelyardref07_Of.sound (orc_cons rat_Good.sound (orc_nil)))))))) Try.func5 (by kernel_rfl) (by kernel_rfl) (by decide +kernel) fun _ _ hR => steelyardlaw07_RatMakes.body rfl (fun _ _ h => (.inl ⟨rfl, h⟩)) (fun _ _ h => (.inr (.inl ⟨rfl, h⟩))) (fun _ _ h => (.inr (.inr (.inl ⟨rfl, h⟩)))) (fun _ _ h => (.inr (.inr (.inr (.inl ⟨rfl, h⟩))))) (fun _ _ h => (.inr (.inr (.inr (.inr (.inl ⟨rfl, h⟩)))))) (fun _ _ h => (.inr (.inr (.inr (.inr (.inr (.inl ⟨rfl, h⟩))))))) (fun _ _ h => (.inr (.inr (.inr (.inr (.inr (.inr (.inl ⟨rfl, h⟩)))))))) hR rfl
end Go.Proofs.Yticngjjdjmadgaa.PU
end
