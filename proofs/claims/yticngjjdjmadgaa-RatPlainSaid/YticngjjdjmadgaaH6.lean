/- Part 6 of the proof. -/
import Derived.Test.YticngjjdjmadgaaProg
import Derived.Laws.Tables
import Derived.Orders
import Derived.Below
import Derived.Deep.Draws
import Derived.Deep.AppendLies
import Derived.Maps.AppendAt
import Derived.OwnWalk
import Derived.Laws.BytesArg
import Derived.Laws.MakeOwn
import Derived.Laws.OwnMore
import Derived.Deep.OwnRows
import Derived.Tactics
import Derived.Lib.ConvBytes
import Derived.Laws.Slices
import Derived.WalkKit
import Derived.KernelRfl
import Derived.RowKit3
import Derived.Deep.LoopGhost
import Derived.Deep.QuietTactic
import Derived.BigQuiet
import Derived.WideLaws
import Derived.Deep.DeepCutAuto
import Derived.Deep.CutBlock
import Derived.Deep.RegionHeld3
import Derived.Laws.Rows
import Derived.Lib.AppendStr
import Derived.ArgAppend
import Derived.Laws.IdiomCopy
import Derived.RowKit
import Derived.OrdersHeld
import Derived.Laws.BitsLemmas
import Derived.Laws.Cells
import Derived.Great.BuildSlice
import Derived.Laws.CopyRow
import Derived.Laws.StructEq
import Derived.Test.YticngjjdjmadgaaH5
set_option linter.unusedVariables false
set_option linter.unusedSimpArgs false
section
set_option linter.unusedVariables false
set_option linter.unusedSimpArgs false
namespace Go.Proofs.Yticngjjdjmadgaa.PU
open Go Go.RowKit Go.Proofs.YticngjjdjmadgaaW.PrintWords Go.Proofs.YticngjjdjmadgaaW.PrintMore Go.Proofs.Yticngjjdjmadgaa.Den Go.Proofs.Yticngjjdjmadgaa.PL
def steelyardlaw07_wakes.R (us : List U) (u : U) : Prop := ∃ (k : Nat) (r : Bool), us = [] ∧ steelyardlaw07_wakes.f k = some r ∧ u = .v (.bool r)
theorem steelyardlaw07_wakes.I {k : Nat} {r : Bool} (h : steelyardlaw07_wakes.f k = some r) : steelyardlaw07_wakes.R [] (.v (.bool r)) := ⟨_, _, rfl, h, rfl⟩
theorem steelyardlaw07_wakes.J {k : Nat} {r : Bool} (h : steelyardlaw07_wakes.f k = some r) {us : List U} (hus : us = []) : steelyardlaw07_wakes.R us (.v (.bool r)) := ⟨_, _, hus, h, rfl⟩
theorem steelyardlaw07_wakes.E {β : Type} {k : Nat} {g : Bool → Option β} {z : β} {Q : Prop} (h : (steelyardlaw07_wakes.f k).bind g = some z) (c : ∀ (r : Bool), steelyardlaw07_wakes.f k = some r → g r = some z → Q) : Q := by
  obtain ⟨p, h1, h2⟩ := Option.bind_eq_some_iff.1 h
  exact c p h1 h2
set_option maxHeartbeats 4000000 in
set_option maxRecDepth 100000 in
theorem steelyardlaw07_wakes.body {D : Dat} {C : Orc} (hD : D = real) (h21 : ∀ us u, steelyardkeep_Rat.R us u → C 21 us u) (h24 : ∀ us u, rat_Of.R us u → C 24 us u) (h28 : ∀ us u, rat_Good.R us u → C 28 us u) (h29 : ∀ us u, rat_Add.R us u → C 29 us u) (h30 : ∀ us u, rat_Div.R us u → C 30 us u) (h31 : ∀ us u, rat_Whole.R us u → C 31 us u) (h32 : ∀ us u, rat_Cmp.R us u → C 32 us u) (h35 : ∀ us u, rat_Mul.R us u → C 35 us u) (h41 : ∀ us u, rat_Sign.R us u → C 41 us u) (h45 : ∀ us u, rat_Same.R us u → C 45 us u) (h48 : ∀ us u, steelyardlaw07_By.R us u → C 48 us u) {us : List U} {u : U} (hR : steelyardlaw07_wakes.R us u) {Q : Prop} (hQ : body tys D C Try.f23 us u = Q) : Q := by
  obtain ⟨k, r, rfl, h, hu⟩ := hR
  obtain ⟨len, add, sub, mul, rem, neg, conv, max, eq, ne, lt, le, nth, zeros, copy, cpd, bor⟩ := D
  simp only [real, Dat.mk.injEq] at hD
  obtain ⟨elen, eadd, esub, emul, erem, eneg, econv, emax, eeq, ene, elt, ele, enth, ezeros, ecopy, ecpd, ebor⟩ := hD
  have hE := And.intro elen (And.intro eadd (And.intro esub (And.intro emul (And.intro erem (And.intro eneg (And.intro econv (And.intro ebor (And.intro emax (And.intro eeq (And.intro ene (And.intro elt ele)))))))))))
  unfold steelyardlaw07_wakes.f at h <;>
  (repeat' first
    | (simp (maxSteps := 2000000) only [↓reduceIte, Bool.false_eq_true, Bool.not_true, Bool.not_false, reduceCtorEq, b00, b01, b10, b11, n00, n01, n10, n11] at h; done)
    | (simp (maxSteps := 2000000) only [↓reduceIte, Bool.false_eq_true, Bool.not_true, Bool.not_false, Option.bind_some, splice_self, b00, b01, b10, b11, n00, n01, n10, n11] at h)
    | (rw [‹steelyardkeep_Rat.f _ _ _ _ _ _ _ = some _›] at h; simp only [Option.bind_some] at h)
    | (with_reducible refine steelyardkeep_Rat.E h ?_; clear h; rintro (_ | _) _ h)
    | (rw [‹rat_Of.f _ _ _ _ = some _›] at h; simp only [Option.bind_some] at h)
    | (with_reducible refine rat_Of.E h ?_; clear h; rintro _ _ _ _ _ h)
    | (rw [‹rat_Good.f _ _ _ _ = some _›] at h; simp only [Option.bind_some] at h)
    | (with_reducible refine rat_Good.E h ?_; clear h; rintro (_ | _) _ h)
    | (rw [‹rat_Add.f _ _ _ _ _ _ _ = some _›] at h; simp only [Option.bind_some] at h)
    | (with_reducible refine rat_Add.E h ?_; clear h; rintro _ _ _ _ _ h)
    | (with_reducible refine rat_Div.E h ?_; clear h; rintro _ _ _ _ _ h)
    | (with_reducible refine rat_Whole.E h ?_; clear h; rintro _ _ _ _ h)
    | (with_reducible refine rat_Cmp.E h ?_; clear h; rintro _ _ h)
    | (with_reducible refine rat_Mul.E h ?_; clear h; rintro _ _ _ _ _ h)
    | (with_reducible refine rat_Sign.E h ?_; clear h; rintro _ _ h)
    | (with_reducible refine rat_Same.E h ?_; clear h; rintro _ _ h)
    | (rw [‹steelyardlaw07_By.f _ _ _ = some _›] at h; simp only [Option.bind_some] at h)
    | (with_reducible refine steelyardlaw07_By.E h ?_; clear h; rintro _ _ _ _ h)
    | (simp (maxSteps := 2000000) only [↓reduceIte, Bool.false_eq_true, Bool.not_true, Bool.not_false, reduceCtorEq, decide_eq_true_eq, bne_iff_ne, ne_eq, beq_iff_eq, Option.bind_some, splice_self, b00, b01, b10, b11, n00, n01, n10, n11] at h)
    | (with_reducible refine iteE h ?_ ?_ <;> clear h <;> intro _ h)
    | (split at h)) <;>
  (injection h with h) <;>
  (try simp only [Prod.mk.injEq] at h) <;>
  (subst h) <;>
  (rw [← hQ]; clear hQ) <;>
  (cbv) <;>
  (repeat first
    | ((with_reducible refine Exists.intro _ (And.intro (h21 _ _ (steelyardkeep_Rat.I ‹_›)) ?_)); cbv)
    | ((with_reducible apply Exists.intro); (with_reducible apply And.intro); (· with_reducible apply h21; simp only [hE, w64, mxE]; exact steelyardkeep_Rat.I ‹_›); cbv)
    | ((with_reducible refine Exists.intro _ (And.intro (h21 _ _ (steelyardkeep_Rat.J ‹steelyardkeep_Rat.f _ _ _ _ _ _ _ = some _› ?_)) ?_)); (· first | (simp only [hE, w64, mxE]; done) | (simp only [hE, w64, mxE]; rfl)); cbv)
    | ((with_reducible refine Exists.intro _ (And.intro (h24 _ _ (rat_Of.I ‹_›)) ?_)); cbv)
    | ((with_reducible apply Exists.intro); (with_reducible apply And.intro); (· with_reducible apply h24; simp only [hE, w64, mxE]; exact rat_Of.I ‹_›); cbv)
    | ((with_reducible refine Exists.intro _ (And.intro (h24 _ _ (rat_Of.J ‹rat_Of.f _ _ _ _ = some _› ?_)) ?_)); (· first | (simp only [hE, w64, mxE]; done) | (simp only [hE, w64, mxE]; rfl)); cbv)
    | ((with_reducible refine Exists.intro _ (And.intro (h28 _ _ (rat_Good.I ‹_›)) ?_)); cbv)
    | ((with_reducible apply Exists.intro); (with_reducible apply And.intro); (· with_reducible apply h28; simp only [hE, w64, mxE]; exact rat_Good.I ‹_›); cbv)
    | ((with_reducible refine Exists.intro _ (And.intro (h28 _ _ (rat_Good.J ‹rat_Good.f _ _ _ _ = some _› ?_)) ?_)); (· first | (simp only [hE, w64, mxE]; done) | (simp only [hE, w64, mxE]; rfl)); cbv)
    | ((with_reducible refine Exists.intro _ (And.intro (h29 _ _ (rat_Add.I ‹_›)) ?_)); cbv)
    | ((with_reducible apply Exists.intro); (with_reducible apply And.intro); (· with_reducible apply h29; simp only [hE, w64, mxE]; exact rat_Add.I ‹_›); cbv)
    | ((with_reducible refine Exists.intro _ (And.intro (h29 _ _ (rat_Add.J ‹rat_Add.f _ _ _ _ _ _ _ = some _› ?_)) ?_)); (· first | (simp only [hE, w64, mxE]; done) | (simp only [hE, w64, mxE]; rfl)); cbv)
    | ((with_reducible refine Exists.intro _ (And.intro (h30 _ _ (rat_Div.I ‹_›)) ?_)); cbv)
    | ((with_reducible apply Exists.intro); (with_reducible apply And.intro); (· with_reducible apply h30; simp only [hE, w64, mxE]; exact rat_Div.I ‹_›); cbv)
    | ((with_reducible refine Exists.intro _ (And.intro (h30 _ _ (rat_Div.J ‹rat_Div.f _ _ _ _ _ _ _ = some _› ?_)) ?_)); (· first | (simp only [hE, w64, mxE]; done) | (simp only [hE, w64, mxE]; rfl)); cbv)
    | ((with_reducible refine Exists.intro _ (And.intro (h31 _ _ (rat_Whole.I ‹_›)) ?_)); cbv)
    | ((with_reducible apply Exists.intro); (with_reducible apply And.intro); (· with_reducible apply h31; simp only [hE, w64, mxE]; exact rat_Whole.I ‹_›); cbv)
    | ((with_reducible refine Exists.intro _ (And.intro (h31 _ _ (rat_Whole.J ‹rat_Whole.f _ _ = some _› ?_)) ?_)); (· first | (simp only [hE, w64, mxE]; done) | (simp only [hE, w64, mxE]; rfl)); cbv)
    | ((with_reducible refine Exists.intro _ (And.intro (h32 _ _ (rat_Cmp.I ‹_›)) ?_)); cbv)
    | ((with_reducible apply Exists.intro); (with_reducible apply And.intro); (· with_reducible apply h32; simp only [hE, w64, mxE]; exact rat_Cmp.I ‹_›); cbv)
    | ((with_reducible refine Exists.intro _ (And.intro (h32 _ _ (rat_Cmp.J ‹rat_Cmp.f _ _ _ _ _ _ _ = some _› ?_)) ?_)); (· first | (simp only [hE, w64, mxE]; done) | (simp only [hE, w64, mxE]; rfl)); cbv)
    | ((with_reducible refine Exists.intro _ (And.intro (h35 _ _ (rat_Mul.I ‹_›)) ?_)); cbv)
    | ((with_reducible apply Exists.intro); (with_reducible apply And.intro); (· with_reducible apply h35; simp only [hE, w64, mxE]; exact rat_Mul.I ‹_›); cbv)
    | ((with_reducible refine Exists.intro _ (And.intro (h35 _ _ (rat_Mul.J ‹rat_Mul.f _ _ _ _ _ _ _ = some _› ?_)) ?_)); (· first | (simp only [hE, w64, mxE]; done) | (simp only [hE, w64, mxE]; rfl)); cbv)
    | ((with_reducible refine Exists.intro _ (And.intro (h41 _ _ (rat_Sign.I ‹_›)) ?_)); cbv)
    | ((with_reducible apply Exists.intro); (with_reducible apply And.intro); (· with_reducible apply h41; simp only [hE, w64, mxE]; exact rat_Sign.I ‹_›); cbv)
    | ((with_reducible refine Exists.intro _ (And.intro (h41 _ _ (rat_Sign.J ‹rat_Sign.f _ _ _ _ = some _› ?_)) ?_)); (· first | (simp only [hE, w64, mxE]; done) | (simp only [hE, w64, mxE]; rfl)); cbv)
    | ((with_reducible refine Exists.intro _ (And.intro (h45 _ _ (rat_Same.I ‹_›)) ?_)); cbv)
    | ((with_reducible apply Exists.intro); (with_reducible apply And.intro); (· with_reducible apply h45; simp only [hE, w64, mxE]; exact rat_Same.I ‹_›); cbv)
    | ((with_reducible refine Exists.intro _ (And.intro (h45 _ _ (rat_Same.J ‹rat_Same.f _ _ _ _ _ _ _ = some _› ?_)) ?_)); (· first | (simp only [hE, w64, mxE]; done) | (simp only [hE, w64, mxE]; rfl)); cbv)
    | ((with_reducible refine Exists.intro _ (And.intro (h48 _ _ (steelyardlaw07_By.I ‹_›)) ?_)); cbv)
    | ((with_reducible apply Exists.intro); (with_reducible apply And.intro); (· with_reducible apply h48; simp only [hE, w64, mxE]; exact steelyardlaw07_By.I ‹_›); cbv)
    | ((with_reducible refine Exists.intro _ (And.intro (h48 _ _ (steelyardlaw07_By.J ‹steelyardlaw07_By.f _ _ _ = some _› ?_)) ?_)); (· first | (simp only [hE, w64, mxE]; done) | (simp only [hE, w64, mxE]; rfl)); cbv)
    | ((with_reducible refine t1 ?_ ?_); (· (simp only [hE, w64, decide_eq_true_eq, decide_eq_false_iff_not]; first | assumption | omega)); intro hb_; (try simp only [hb_]); cbv)
    | ((with_reducible refine t2 ?_ ?_); (· (simp only [hE, w64, decide_eq_true_eq, decide_eq_false_iff_not]; first | assumption | omega)); intro hb_; (try simp only [hb_]); cbv)
    | ((with_reducible refine t3 ?_ ?_); (· (simp only [hE, w64, decide_eq_true_eq, decide_eq_false_iff_not]; first | assumption | omega)); intro hb_; (try simp only [hb_]); cbv)
    | ((with_reducible refine t4 ?_ ?_); (· (simp only [hE, w64, decide_eq_true_eq, decide_eq_false_iff_not]; first | assumption | omega)); intro hb_; (try simp only [hb_]); cbv)
    | (rw [hu]; done)
    | (rw [hu]; simp only [hE, w64]; done)
    | (rw [hu]; simp only [hE, w64]; rfl)
    | (rw [hu]; simp only [hE, w64, Option.some.injEq, U.agg.injEq, U.tup.injEq, U.v.injEq, List.cons.injEq, Value.bool.injEq, and_true, true_and, decide_eq_true_eq, decide_eq_false_iff_not]; first | assumption | omega))
theorem steelyardlaw07_wakes.sound : SoundF Try.prog 23 steelyardlaw07_wakes.R :=
  Den.sound (l := [(21, steelyardkeep_Rat.R), (24, rat_Of.R), (28, rat_Good.R), (29, rat_Add.R), (30, rat_Div.R), (31, rat_Whole.R), (32, rat_Cmp.R), (35, rat_Mul.R), (41, rat_Sign.R), (45, rat_Same.R), (48, steelyardlaw07_By.R)]) (orc_cons steelyardkeep_Rat.sound (orc_cons rat_Of.sound (orc_cons rat_Good.sound (orc_cons rat_Add.sound (orc_cons rat_Div.sound (orc_cons rat_Whole.sound (orc_cons rat_Cmp.sound (orc_cons rat_Mul.sound (orc_cons rat_Sign.sound (orc_cons rat_Same.sound (orc_cons steelyardlaw07_By.sound (orc_nil)))))))))))) Try.func23 (by kernel_rfl) (by kernel_rfl) (by decide +kernel) fun _ _ hR => steelyardlaw07_wakes.body rfl (fun _ _ h => (.inl ⟨rfl, h⟩)) (fun _ _ h => (.inr (.inl ⟨rfl, h⟩))) (fun _ _ h => (.inr (.inr (.inl ⟨rfl, h⟩)))) (fun _ _ h => (.inr (.inr (.inr (.inl ⟨rfl, h⟩))))) (fun _ _ h => (.inr (.inr (.inr (.inr (.inl ⟨rfl, h⟩)))))) (fun _ _ h => (.inr (.inr (.inr (.inr (.inr (.inl ⟨rfl, h⟩))))))) (fun _ _ h => (.inr (.inr (.inr (.inr (.inr (.inr (.inl ⟨rfl, h⟩)))))))) (fun _ _ h => (.inr (.inr (.inr (.inr (.inr (.inr (.inr (.inl ⟨rfl, h⟩))))))))) (fun _ _ h => (.inr (.inr (.inr (.inr (.inr (.inr (.inr (.inr (.inl ⟨rfl, h⟩)))))))))) (fun _ _ h => (.inr (.inr (.inr (.inr (.inr (.inr (.inr (.inr (.inr (.inl ⟨rfl, h⟩))))))))))) (fun _ _ h => (.inr (.inr (.inr (.inr (.inr (.inr (.inr (.inr (.inr (.inr (.inl ⟨rfl, h⟩)))))))))))) hR rfl
end Go.Proofs.Yticngjjdjmadgaa.PU
end
section
set_option linter.unusedVariables false
set_option linter.unusedSimpArgs false
namespace Go.Proofs.Yticngjjdjmadgaa.PU
open Go Go.RowKit Go.Proofs.YticngjjdjmadgaaW.PrintWords Go.Proofs.YticngjjdjmadgaaW.PrintMore Go.Proofs.Yticngjjdjmadgaa.Den Go.Proofs.Yticngjjdjmadgaa.PL
def steelyardlaw07_RatPlain.j0 : Nat → Int → Bool → Bool → List Int → List Int → Option (Bool)
  | 0, _, _, _, _, _ => none
  | k + 1, x1, x28, x1023000, x1023001, x1023002 => if x28 = true then ((steelyardlaw07_wakes.f k).bind fun t1024 => (some t1024)) else ((some (([Go.bits .or .u32 x1 1] : List Int) : List Int)).bind fun y1025 => ((steelyardref02_Of.f k x1023001 y1025).bind fun t1028 => ((steelyardref02_Of.f k x1023002 y1025).bind fun t1032 => ((rat_Of.f k x1023000 t1028 t1032).bind fun bt1035 => ((rat_Of.f k x1023000 t1028 ([] : List Int)).bind fun bt1044 => ((rat_Of.f k x1023000 t1028 (([0, 0] : List Int))).bind fun bt1056 => (if bt1035.2.2.2 = 0 then ((steelyardkeep_Rat.f k x1023000 x1023001 x1023002 bt1035.1 bt1035.2.1 bt1035.2.2.1).bind fun t1065 => (if t1065 = true then (if bt1044.2.2.2 = 3 then (if bt1056.2.2.2 = 3 then ((rat_Good.f k bt1035.1 bt1035.2.1 bt1035.2.2.1).bind fun t1066 => (if t1066 = true then ((steelyardlaw07_wakes.f k).bind fun t1067 => (some t1067)) else (some false))) else (some false)) else (some false)) else (some false))) else (some false))))))))
def steelyardlaw07_RatPlain.f (k : Nat) (a0_0 : Bool) (l0_1 : List Int) (l0_2 : List Int) (a1 : Int) : Option (Bool) := (steelyardref07_Good.f k a0_0 l0_1 l0_2).bind fun t1023 => (if t1023 = true then (if (l0_1.length : Int) > 40 then (steelyardlaw07_RatPlain.j0 k a1 true a0_0 l0_1 l0_2) else (if (l0_2.length : Int) > 40 then (steelyardlaw07_RatPlain.j0 k a1 true a0_0 l0_1 l0_2) else (steelyardlaw07_RatPlain.j0 k a1 false a0_0 l0_1 l0_2))) else (steelyardlaw07_RatPlain.j0 k a1 true a0_0 l0_1 l0_2))
def steelyardlaw07_RatPlain.R (us : List U) (u : U) : Prop := ∃ (k : Nat) (a0_0 : Bool) (l0_1 : List Int) (l0_2 : List Int) (a1 : Int) (r : Bool), us = [.agg [.v (.bool a0_0), .l l0_1, .l l0_2], .v (.int .u32 a1)] ∧ steelyardlaw07_RatPlain.f k a0_0 l0_1 l0_2 a1 = some r ∧ u = .v (.bool r)
theorem steelyardlaw07_RatPlain.I {k : Nat} {a0_0 : Bool} {l0_1 : List Int} {l0_2 : List Int} {a1 : Int} {r : Bool} (h : steelyardlaw07_RatPlain.f k a0_0 l0_1 l0_2 a1 = some r) : steelyardlaw07_RatPlain.R [.agg [.v (.bool a0_0), .l l0_1, .l l0_2], .v (.int .u32 a1)] (.v (.bool r)) := ⟨_, _, _, _, _, _, rfl, h, rfl⟩
theorem steelyardlaw07_RatPlain.J {k : Nat} {a0_0 : Bool} {l0_1 : List Int} {l0_2 : List Int} {a1 : Int} {r : Bool} (h : steelyardlaw07_RatPlain.f k a0_0 l0_1 l0_2 a1 = some r) {us : List U} (hus : us = [.agg [.v (.bool a0_0), .l l0_1, .l l0_2], .v (.int .u32 a1)]) : steelyardlaw07_RatPlain.R us (.v (.bool r)) := ⟨_, _, _, _, _, _, hus, h, rfl⟩
theorem steelyardlaw07_RatPlain.E {β : Type} {k : Nat} {a0_0 : Bool} {l0_1 : List Int} {l0_2 : List Int} {a1 : Int} {g : Bool → Option β} {z : β} {Q : Prop} (h : (steelyardlaw07_RatPlain.f k a0_0 l0_1 l0_2 a1).bind g = some z) (c : ∀ (r : Bool), steelyardlaw07_RatPlain.f k a0_0 l0_1 l0_2 a1 = some r → g r = some z → Q) : Q := by
  obtain ⟨p, h1, h2⟩ := Option.bind_eq_some_iff.1 h
  exact c p h1 h2
set_option maxHeartbeats 4000000 in
set_option maxRecDepth 100000 in
theorem steelyardlaw07_RatPlain.body {D : Dat} {C : Orc} (hD : D = real) (h21 : ∀ us u, steelyardkeep_Rat.R us u → C 21 us u) (h22 : ∀ us u, steelyardref07_Good.R us u → C 22 us u) (h23 : ∀ us u, steelyardlaw07_wakes.R us u → C 23 us u) (h24 : ∀ us u, rat_Of.R us u → C 24 us u) (h28 : ∀ us u, rat_Good.R us u → C 28 us u) (h33 : ∀ us u, steelyardref02_Of.R us u → C 33 us u) {us : List U} {u : U} (hR : steelyardlaw07_RatPlain.R us u) {Q : Prop} (hQ : body tys D C Try.f7 us u = Q) : Q := by
  obtain ⟨k, a0_0, l0_1, l0_2, a1, r, rfl, h, hu⟩ := hR
  obtain ⟨len, add, sub, mul, rem, neg, conv, max, eq, ne, lt, le, nth, zeros, copy, cpd, bor⟩ := D
  simp only [real, Dat.mk.injEq] at hD
  obtain ⟨elen, eadd, esub, emul, erem, eneg, econv, emax, eeq, ene, elt, ele, enth, ezeros, ecopy, ecpd, ebor⟩ := hD
  have hE := And.intro elen (And.intro eadd (And.intro esub (And.intro emul (And.intro erem (And.intro eneg (And.intro econv (And.intro ebor (And.intro emax (And.intro eeq (And.intro ene (And.intro elt ele)))))))))))
  cases a0_0 <;>
  unfold steelyardlaw07_RatPlain.f at h <;>
  (repeat' first
    | (simp (maxSteps := 2000000) only [↓reduceIte, Bool.false_eq_true, Bool.not_true, Bool.not_false, reduceCtorEq, b00, b01, b10, b11, n00, n01, n10, n11] at h; done)
    | (simp (maxSteps := 2000000) only [↓reduceIte, Bool.false_eq_true, Bool.not_true, Bool.not_false, Option.bind_some, splice_self, b00, b01, b10, b11, n00, n01, n10, n11] at h)
    | (with_reducible refine steelyardkeep_Rat.E h ?_; clear h; rintro (_ | _) _ h)
    | (with_reducible refine steelyardref07_Good.E h ?_; clear h; rintro (_ | _) _ h)
    | (rw [‹steelyardlaw07_wakes.f _ = some _›] at h; simp only [Option.bind_some] at h)
    | (with_reducible refine steelyardlaw07_wakes.E h ?_; clear h; rintro _ _ h)
    | (rw [‹rat_Of.f _ _ _ _ = some _›] at h; simp only [Option.bind_some] at h)
    | (with_reducible refine rat_Of.E h ?_; clear h; rintro _ _ _ _ _ h)
    | (with_reducible refine rat_Good.E h ?_; clear h; rintro (_ | _) _ h)
    | (rw [‹steelyardref02_Of.f _ _ _ = some _›] at h; simp only [Option.bind_some] at h)
    | (with_reducible refine steelyardref02_Of.E h ?_; clear h; rintro _ _ h)
    | (unfold steelyardlaw07_RatPlain.j0 at h)
    | (simp (maxSteps := 2000000) only [↓reduceIte, Bool.false_eq_true, Bool.not_true, Bool.not_false, reduceCtorEq, decide_eq_true_eq, bne_iff_ne, ne_eq, beq_iff_eq, Option.bind_some, splice_self, b00, b01, b10, b11, n00, n01, n10, n11] at h)
    | (with_reducible refine iteE h ?_ ?_ <;> clear h <;> intro _ h)
    | (split at h)) <;>
  (injection h with h) <;>
  (try simp only [Prod.mk.injEq] at h) <;>
  (subst h) <;>
  (rw [← hQ]; clear hQ) <;>
  (cbv) <;>
  (repeat first
    | ((with_reducible refine Exists.intro _ (And.intro (h21 _ _ (steelyardkeep_Rat.I ‹_›)) ?_)); cbv)
    | ((with_reducible apply Exists.intro); (with_reducible apply And.intro); (· with_reducible apply h21; simp only [hE, w64, mxE]; exact steelyardkeep_Rat.I ‹_›); cbv)
    | ((with_reducible refine Exists.intro _ (And.intro (h21 _ _ (steelyardkeep_Rat.J ‹steelyardkeep_Rat.f _ _ _ _ _ _ _ = some _› ?_)) ?_)); (· first | (simp only [hE, w64, mxE]; done) | (simp only [hE, w64, mxE]; rfl)); cbv)
    | ((with_reducible refine Exists.intro _ (And.intro (h22 _ _ (steelyardref07_Good.I ‹_›)) ?_)); cbv)
    | ((with_reducible apply Exists.intro); (with_reducible apply And.intro); (· with_reducible apply h22; simp only [hE, w64, mxE]; exact steelyardref07_Good.I ‹_›); cbv)
    | ((with_reducible refine Exists.intro _ (And.intro (h22 _ _ (steelyardref07_Good.J ‹steelyardref07_Good.f _ _ _ _ = some _› ?_)) ?_)); (· first | (simp only [hE, w64, mxE]; done) | (simp only [hE, w64, mxE]; rfl)); cbv)
    | ((with_reducible refine Exists.intro _ (And.intro (h23 _ _ (steelyardlaw07_wakes.I ‹_›)) ?_)); cbv)
    | ((with_reducible apply Exists.intro); (with_reducible apply And.intro); (· with_reducible apply h23; simp only [hE, w64, mxE]; exact steelyardlaw07_wakes.I ‹_›); cbv)
    | ((with_reducible refine Exists.intro _ (And.intro (h23 _ _ (steelyardlaw07_wakes.J ‹steelyardlaw07_wakes.f _ = some _› ?_)) ?_)); (· first | (simp only [hE, w64, mxE]; done) | (simp only [hE, w64, mxE]; rfl)); cbv)
    | ((with_reducible refine Exists.intro _ (And.intro (h24 _ _ (rat_Of.I ‹_›)) ?_)); cbv)
    | ((with_reducible apply Exists.intro); (with_reducible apply And.intro); (· with_reducible apply h24; simp only [hE, w64, mxE]; exact rat_Of.I ‹_›); cbv)
    | ((with_reducible refine Exists.intro _ (And.intro (h24 _ _ (rat_Of.J ‹rat_Of.f _ _ _ _ = some _› ?_)) ?_)); (· first | (simp only [hE, w64, mxE]; done) | (simp only [hE, w64, mxE]; rfl)); cbv)
    | ((with_reducible refine Exists.intro _ (And.intro (h28 _ _ (rat_Good.I ‹_›)) ?_)); cbv)
    | ((with_reducible apply Exists.intro); (with_reducible apply And.intro); (· with_reducible apply h28; simp only [hE, w64, mxE]; exact rat_Good.I ‹_›); cbv)
    | ((with_reducible refine Exists.intro _ (And.intro (h28 _ _ (rat_Good.J ‹rat_Good.f _ _ _ _ = some _› ?_)) ?_)); (· first | (simp only [hE, w64, mxE]; done) | (simp only [hE, w64, mxE]; rfl)); cbv)
    | ((with_reducible refine Exists.intro _ (And.intro (h33 _ _ (steelyardref02_Of.I ‹_›)) ?_)); cbv)
    | ((with_reducible apply Exists.intro); (with_reducible apply And.intro); (· with_reducible apply h33; simp only [hE, w64, mxE]; exact steelyardref02_Of.I ‹_›); cbv)
    | ((with_reducible refine Exists.intro _ (And.intro (h33 _ _ (steelyardref02_Of.J ‹steelyardref02_Of.f _ _ _ = some _› ?_)) ?_)); (· first | (simp only [hE, w64, mxE]; done) | (simp only [hE, w64, mxE]; rfl)); cbv)
    | ((with_reducible refine t1 ?_ ?_); (· (simp only [hE, w64, decide_eq_true_eq, decide_eq_false_iff_not]; first | assumption | omega)); intro hb_; (try simp only [hb_]); cbv)
    | ((with_reducible refine t2 ?_ ?_); (· (simp only [hE, w64, decide_eq_true_eq, decide_eq_false_iff_not]; first | assumption | omega)); intro hb_; (try simp only [hb_]); cbv)
    | ((with_reducible refine t3 ?_ ?_); (· (simp only [hE, w64, decide_eq_true_eq, decide_eq_false_iff_not]; first | assumption | omega)); intro hb_; (try simp only [hb_]); cbv)
    | ((with_reducible refine t4 ?_ ?_); (· (simp only [hE, w64, decide_eq_true_eq, decide_eq_false_iff_not]; first | assumption | omega)); intro hb_; (try simp only [hb_]); cbv)
    | (rw [hu]; done)
    | (rw [hu]; simp only [hE, w64]; done)
    | (rw [hu]; simp only [hE, w64]; rfl)
    | (rw [hu]; simp only [hE, w64, Option.some.injEq, U.agg.injEq, U.tup.injEq, U.v.injEq, List.cons.injEq, Value.bool.injEq, and_true, true_and, decide_eq_true_eq, decide_eq_false_iff_not]; first | assumption | omega))
theorem steelyardlaw07_RatPlain.sound : SoundF Try.prog 7 steelyardlaw07_RatPlain.R :=
  Den.sound (l := [(21, steelyardkeep_Rat.R), (22, steelyardref07_Good.R), (23, steelyardlaw07_wakes.R), (24, rat_Of.R), (28, rat_Good.R), (33, steelyardref02_Of.R)]) (orc_cons steelyardkeep_Rat.sound (orc_cons steelyardref07_Good.sound (orc_cons steelyardlaw07_wakes.sound (orc_cons rat_Of.sound (orc_cons rat_Good.sound (orc_cons steelyardref02_Of.sound (orc_nil))))))) Try.func7 (by kernel_rfl) (by kernel_rfl) (by decide +kernel) fun _ _ hR => steelyardlaw07_RatPlain.body rfl (fun _ _ h => (.inl ⟨rfl, h⟩)) (fun _ _ h => (.inr (.inl ⟨rfl, h⟩))) (fun _ _ h => (.inr (.inr (.inl ⟨rfl, h⟩)))) (fun _ _ h => (.inr (.inr (.inr (.inl ⟨rfl, h⟩))))) (fun _ _ h => (.inr (.inr (.inr (.inr (.inl ⟨rfl, h⟩)))))) (fun _ _ h => (.inr (.inr (.inr (.inr (.inr (.inl ⟨rfl, h⟩))))))) hR rfl
end Go.Proofs.Yticngjjdjmadgaa.PU
end
