/- Part 6 of the proof. -/
import Derived.Test.YtheciiemknmnoaaGreatProg
import Derived.Laws.Tables
import Derived.Orders
import Derived.Below
import Derived.Deep.Draws
import Derived.Deep.AppendLies
import Derived.Maps.AppendAt
import Derived.OwnWalk
import Derived.Laws.BytesArg
import Derived.Laws.MakeOwn
import Derived.Laws.OwnMore
import Derived.Deep.OwnRows
import Derived.Tactics
import Derived.Lib.ConvBytes
import Derived.Laws.Slices
import Derived.WalkKit
import Derived.KernelRfl
import Derived.RowKit3
import Derived.Deep.LoopGhost
import Derived.Deep.QuietTactic
import Derived.BigQuiet
import Derived.WideLaws
import Derived.Deep.DeepCutAuto
import Derived.Deep.CutBlock
import Derived.Deep.RegionHeld3
import Derived.Laws.Rows
import Derived.Lib.AppendStr
import Derived.ArgAppend
import Derived.Laws.IdiomCopy
import Derived.RowKit
import Derived.OrdersHeld
import Derived.Laws.BitsLemmas
import Derived.Laws.Cells
import Derived.Great.BuildSlice
import Derived.Deep.Slices
import Derived.Laws.AppendOwn
import Derived.Laws.LoneSync
import Derived.LoopN
import Derived.Laws.StructEq
import Derived.Laws.Bits64b
import Derived.Laws.BitsAllLaws
import Derived.Test.YtheciiemknmnoaaGreatF5
set_option linter.unusedVariables false
set_option linter.unusedSimpArgs false
section
namespace Go.Proofs.YtheciiemknmnoaaGreat.Num
open Go.RowKit Go.Proofs.YtheciiemknmnoaaGreatW.PrintWords Go.Proofs.YtheciiemknmnoaaGreatW.PrintMore Go.Proofs.YtheciiemknmnoaaGreat.PL
def cmpZ (a b : Int) : Int := if a < b then -1 else if b < a then 1 else 0
def cmpQ (p q : Rat) : Int := if p < q then -1 else if q < p then 1 else 0
def signS (a : R3) : Int := if goodB a = true then cmpQ (qOf a) 0 else 0
theorem cmpZ_cmpQ (p q : Rat) : cmpZ (p.num * q.den) (q.num * p.den) = cmpQ p q := by
 unfold cmpZ cmpQ
 simp only [Rat.lt_iff]
theorem cmpQ_neg1 {p q : Rat} (h : p < q) : cmpQ p q = -1 := if_pos h
theorem cmpQ_pos1 {p q : Rat} (h : q < p) : cmpQ p q = 1 := by
 unfold cmpQ
 rw [if_neg (by grind), if_pos h]
theorem cmpQ_self (p : Rat) : cmpQ p p = 0 := by
 unfold cmpQ
 rw [if_neg (by grind), if_neg (by grind)]
theorem cmpQ_cases (p q : Rat) : (p < q ∧ cmpQ p q = -1) ∨ (p = q ∧ cmpQ p q = 0) ∨ (q < p ∧ cmpQ p q = 1) := by
 by_cases h : p < q
 ·exact Or.inl ⟨h, cmpQ_neg1 h⟩
 ·by_cases h2 : q < p
  ·exact Or.inr (Or.inr ⟨h2, cmpQ_pos1 h2⟩)
  ·have e : p = q := by grind
   exact Or.inr (Or.inl ⟨e, by rw [e]; exact cmpQ_self q⟩)
theorem signS_fits {p : Rat} (hp : fits p = true) : signS (ratOf p) = cmpQ p 0 := by
 unfold signS
 rw [if_pos (good_ratOf hp), qOf_ratOf]
end Go.Proofs.YtheciiemknmnoaaGreat.Num
end
section
set_option linter.unusedVariables false
set_option linter.unusedSimpArgs false
set_option maxRecDepth 100000
set_option maxHeartbeats 4000000
namespace Go.Proofs.YtheciiemknmnoaaGreat.Rd
open Go Go.RowKit Go.Proofs.YtheciiemknmnoaaGreatW.PrintWords Go.Proofs.YtheciiemknmnoaaGreat.PL Go.Proofs.YtheciiemknmnoaaGreat.Num

def tameB (c : List Tm) (xs : List R3) : Bool := !(c.any fun t => overQ 4 t.q) && (!(xs.any (overQ 4)) && decide (cnt c ≤ 60))
def tameR (us : List U) (u : U) : Prop := ∃ c xs, cnt c ≤ 9223372036854775807 ∧ cnt xs ≤ 9223372036854775807 ∧ us = [cU c, qsU xs] ∧ u = ub (tameB c xs)
theorem over_4 {s : Bool} {l d : List Int} : (overQ 4 (s, l, d) = true ↔ 4 < cnt l ∨ 4 < cnt d) := by
 unfold overQ
 simp
theorem tame_ok : SoundF Tryz.prog 9 tameR := sound [] orc_nil Tryz.func9 (by kernel_rfl) (by kernel_rfl) fun us u hR => by
 obtain ⟨c, xs, hn, hxn, rfl, hu⟩ := hR
 obtain ⟨r, hr⟩ : ∃ r, (cnt c).toNat + (cnt xs).toNat < r := ⟨_, Nat.lt_succ_self _⟩
 refine ⟨r, fun C E hC => ?_⟩
 have hm := fun i (h0 : 0 ≤ i) (h1 : i < cnt c) => nth_map (c := c) tU h0 h1
 have hmx := fun i (h0 : 0 ≤ i) (h1 : i < cnt xs) => nth_map (c := xs) qU h0 h1
 have hc := cnt_map c tU
 have hxc := cnt_map xs qU
 have hc0 := cnt0 c
 have hx0 := cnt0 xs
 unfold tameB at hu
 unfold cU qsU
 generalize c.map tU = cs at *
 generalize xs.map qU = ys at *
 cbv
 (repeat ((first | with_reducible refine ln fun _ _ _ => ?_ | refine tt ?_ | refine ff ?_ | with_reducible refine wr fun _ _ => ?_ | refine rp fun _ _ _ => ?_ | with_reducible refine bq ?_ | refine cl ?_ | refine sd ?_); cbv))
 refine lets [0, 1, 5] ?_
 cbv
 refine loop_inv (fun j a h => ∃ i : Int, 0 ≤ i ∧ i ≤ cnt c ∧ j = (cnt c - i).toNat ∧ (∀ (x : Nat) t, (x : Int) < i → c[x]? = some t → overQ 4 t.q = false) ∧ a = [.s 7 cs, .s 3 ys, .lost, .lost, .lost, ui i, .lost, .lost, .lost, .lost, .lost, .lost, .lost, .lost, .lost, .lost, .lost, .lost, .lost, .lost, .lost, .lost, .lost, .lost, .lost, .lost, .lost, .lost, .lost, .lost, .lost, .lost, .lost, .lost, .lost, .lost, .lost, .lost, .lost, .lost, .lost, .lost, .lost, .lost, .lost, .lost, .lost, .lost, .lost, .lost, .lost, .lost, .lost, .lost, .lost, .lost, .lost, .lost] ∧ h = []) ?_ r (cnt c).toNat _ _ (by omega) ⟨0, by omega, by omega, by omega, fun x t hx _ => absurd hx (by omega), rfl, rfl⟩
 rintro j a h K ⟨i, i0, i1, hj, hg, rfl, rfl⟩ hK
 rcases Decidable.em (i < cnt c) with hlt | hlt
 ·obtain ⟨t, ht, hx⟩ := hm i i0 hlt
  have hg1 := fun hf => any_upto (f := fun t => overQ 4 t.q) i0 ht hf hg
  have hg2 : overQ 4 t.q = true → (c.any fun t => overQ 4 t.q) = true := fun hf => any_yes (f := fun t => overQ 4 t.q) ht hf
  obtain ⟨kd, ta, tb, m, s, l, d⟩ := t
  dsimp only at hg1 hg2
  have ho := over_4 (s := s) (l := l) (d := d)
  generalize overQ 4 (s, l, d) = g at *
  clear hm hmx hg
  rcases Decidable.em (4 < cnt l) with h1 | h1
  ·rw [hg2 (ho.2 (.inl h1)), Bool.not_true, Bool.false_and] at hu
   clear hg1 hg2 hK ho
   cbv
   (repeat ((first | with_reducible refine ln fun _ _ _ => ?_ | refine tt ?_ | refine ff ?_ | with_reducible refine wr fun _ _ => ?_ | refine rp fun _ _ _ => ?_ | with_reducible refine bq ?_ | refine cl ?_ | refine sd ?_); cbv))
   refine el ?_ (by omega) hx
   cbv
   (repeat ((first | with_reducible refine ln fun _ _ _ => ?_ | refine tt ?_ | refine ff ?_ | with_reducible refine wr fun _ _ => ?_ | refine rp fun _ _ _ => ?_ | with_reducible refine bq ?_ | refine cl ?_ | refine sd ?_); cbv))
   exact hu.symm
  rcases Decidable.em (4 < cnt d) with h2 | h2
  ·rw [hg2 (ho.2 (.inr h2)), Bool.not_true, Bool.false_and] at hu
   clear hg1 hg2 hK ho
   cbv
   (repeat ((first | with_reducible refine ln fun _ _ _ => ?_ | refine tt ?_ | refine ff ?_ | with_reducible refine wr fun _ _ => ?_ | refine rp fun _ _ _ => ?_ | with_reducible refine bq ?_ | refine cl ?_ | refine sd ?_); cbv))
   refine el ?_ (by omega) hx
   cbv
   (repeat ((first | with_reducible refine ln fun _ _ _ => ?_ | refine tt ?_ | refine ff ?_ | with_reducible refine wr fun _ _ => ?_ | refine rp fun _ _ _ => ?_ | with_reducible refine bq ?_ | refine cl ?_ | refine sd ?_); cbv))
   refine el ?_ (by omega) hx
   cbv
   (repeat ((first | with_reducible refine ln fun _ _ _ => ?_ | refine tt ?_ | refine ff ?_ | with_reducible refine wr fun _ _ => ?_ | refine rp fun _ _ _ => ?_ | with_reducible refine bq ?_ | refine cl ?_ | refine sd ?_); cbv))
   exact hu.symm
  ·have hg1 := hg1 (by cases g; rfl; exact absurd (ho.1 rfl) (by omega))
   clear hg2 ho
   cbv
   (repeat ((first | with_reducible refine ln fun _ _ _ => ?_ | refine tt ?_ | refine ff ?_ | with_reducible refine wr fun _ _ => ?_ | refine rp fun _ _ _ => ?_ | with_reducible refine bq ?_ | refine cl ?_ | refine sd ?_); cbv))
   refine el ?_ (by omega) hx
   cbv
   (repeat ((first | with_reducible refine ln fun _ _ _ => ?_ | refine tt ?_ | refine ff ?_ | with_reducible refine wr fun _ _ => ?_ | refine rp fun _ _ _ => ?_ | with_reducible refine bq ?_ | refine cl ?_ | refine sd ?_); cbv))
   refine el ?_ (by omega) hx
   cbv
   (repeat ((first | with_reducible refine ln fun _ _ _ => ?_ | refine tt ?_ | refine ff ?_ | with_reducible refine wr fun _ _ => ?_ | refine rp fun _ _ _ => ?_ | with_reducible refine bq ?_ | refine cl ?_ | refine sd ?_); cbv))
   rename_i i' hi'
   refine lets [0, 1, 5] ?_
   exact hK (cnt c - (i + 1)).toNat _ _ (by omega) ⟨i + 1, by omega, by omega, rfl, hg1, by rw [hi']; rfl, rfl⟩
 rw [any_no (f := fun t => overQ 4 t.q) fun x t hx => hg x t (by omega), Bool.not_false, Bool.true_and] at hu
 clear hg hm hK
 cbv
 (repeat ((first | with_reducible refine ln fun _ _ _ => ?_ | refine tt ?_ | refine ff ?_ | with_reducible refine wr fun _ _ => ?_ | refine rp fun _ _ _ => ?_ | with_reducible refine bq ?_ | refine cl ?_ | refine sd ?_); cbv))
 refine lets [0, 1, 6] ?_
 cbv
 refine loop_inv (fun j a h => ∃ i : Int, 0 ≤ i ∧ i ≤ cnt xs ∧ j = (cnt xs - i).toNat ∧ (∀ (x : Nat) t, (x : Int) < i → xs[x]? = some t → overQ 4 t = false) ∧ a = [.s 7 cs, .s 3 ys, .lost, .lost, .lost, .lost, ui i, .lost, .lost, .lost, .lost, .lost, .lost, .lost, .lost, .lost, .lost, .lost, .lost, .lost, .lost, .lost, .lost, .lost, .lost, .lost, .lost, .lost, .lost, .lost, .lost, .lost, .lost, .lost, .lost, .lost, .lost, .lost, .lost, .lost, .lost, .lost, .lost, .lost, .lost, .lost, .lost, .lost, .lost, .lost, .lost, .lost, .lost, .lost, .lost, .lost, .lost, .lost] ∧ h = []) ?_ r (cnt xs).toNat _ _ (by omega) ⟨0, by omega, by omega, by omega, fun x t hx _ => absurd hx (by omega), rfl, rfl⟩
 rintro j2 a h K2 ⟨p, p0, p1, hj2, hg, rfl, rfl⟩ hK
 rcases Decidable.em (p < cnt xs) with hlt2 | hlt2
 ·obtain ⟨⟨s, l, d⟩, ht, hx⟩ := hmx p p0 hlt2
  have hg1 := fun hf => any_upto (f := overQ 4) p0 ht hf hg
  have hg2 : overQ 4 (s, l, d) = true → (xs.any (overQ 4)) = true := fun hf => any_yes (f := overQ 4) ht hf
  have ho := over_4 (s := s) (l := l) (d := d)
  generalize overQ 4 (s, l, d) = g at *
  clear hmx hg
  rcases Decidable.em (4 < cnt l) with h1 | h1
  ·rw [hg2 (ho.2 (.inl h1)), Bool.not_true, Bool.false_and] at hu
   clear hg1 hg2 hK ho
   cbv
   (repeat ((first | with_reducible refine ln fun _ _ _ => ?_ | refine tt ?_ | refine ff ?_ | with_reducible refine wr fun _ _ => ?_ | refine rp fun _ _ _ => ?_ | with_reducible refine bq ?_ | refine cl ?_ | refine sd ?_); cbv))
   refine el ?_ (by omega) hx
   cbv
   (repeat ((first | with_reducible refine ln fun _ _ _ => ?_ | refine tt ?_ | refine ff ?_ | with_reducible refine wr fun _ _ => ?_ | refine rp fun _ _ _ => ?_ | with_reducible refine bq ?_ | refine cl ?_ | refine sd ?_); cbv))
   exact hu.symm
  rcases Decidable.em (4 < cnt d) with h2 | h2
  ·rw [hg2 (ho.2 (.inr h2)), Bool.not_true, Bool.false_and] at hu
   clear hg1 hg2 hK ho
   cbv
   (repeat ((first | with_reducible refine ln fun _ _ _ => ?_ | refine tt ?_ | refine ff ?_ | with_reducible refine wr fun _ _ => ?_ | refine rp fun _ _ _ => ?_ | with_reducible refine bq ?_ | refine cl ?_ | refine sd ?_); cbv))
   refine el ?_ (by omega) hx
   cbv
   (repeat ((first | with_reducible refine ln fun _ _ _ => ?_ | refine tt ?_ | refine ff ?_ | with_reducible refine wr fun _ _ => ?_ | refine rp fun _ _ _ => ?_ | with_reducible refine bq ?_ | refine cl ?_ | refine sd ?_); cbv))
   refine el ?_ (by omega) hx
   cbv
   (repeat ((first | with_reducible refine ln fun _ _ _ => ?_ | refine tt ?_ | refine ff ?_ | with_reducible refine wr fun _ _ => ?_ | refine rp fun _ _ _ => ?_ | with_reducible refine bq ?_ | refine cl ?_ | refine sd ?_); cbv))
   exact hu.symm
  ·have hg1 := hg1 (by cases g; rfl; exact absurd (ho.1 rfl) (by omega))
   clear hg2 ho
   cbv
   (repeat ((first | with_reducible refine ln fun _ _ _ => ?_ | refine tt ?_ | refine ff ?_ | with_reducible refine wr fun _ _ => ?_ | refine rp fun _ _ _ => ?_ | with_reducible refine bq ?_ | refine cl ?_ | refine sd ?_); cbv))
   refine el ?_ (by omega) hx
   cbv
   (repeat ((first | with_reducible refine ln fun _ _ _ => ?_ | refine tt ?_ | refine ff ?_ | with_reducible refine wr fun _ _ => ?_ | refine rp fun _ _ _ => ?_ | with_reducible refine bq ?_ | refine cl ?_ | refine sd ?_); cbv))
   refine el ?_ (by omega) hx
   cbv
   (repeat ((first | with_reducible refine ln fun _ _ _ => ?_ | refine tt ?_ | refine ff ?_ | with_reducible refine wr fun _ _ => ?_ | refine rp fun _ _ _ => ?_ | with_reducible refine bq ?_ | refine cl ?_ | refine sd ?_); cbv))
   rename_i i' hi'
   refine lets [0, 1, 6] ?_
   exact hK (cnt xs - (p + 1)).toNat _ _ (by omega) ⟨p + 1, by omega, by omega, rfl, hg1, by rw [hi']; rfl, rfl⟩
 ·rw [any_no (f := overQ 4) fun x t hx => hg x t (by omega), Bool.not_false, Bool.true_and] at hu
  clear hg hmx hK
  cbv
  rcases Decidable.em (cnt c ≤ 60) with h5 | h5
  ·rw [decide_eq_true h5] at hu
   (repeat ((first | with_reducible refine ln fun _ _ _ => ?_ | refine tt ?_ | refine ff ?_ | with_reducible refine wr fun _ _ => ?_ | refine rp fun _ _ _ => ?_ | with_reducible refine bq ?_ | refine cl ?_ | refine sd ?_); cbv)); exact hu.symm
  ·rw [decide_eq_false h5] at hu
   (repeat ((first | with_reducible refine ln fun _ _ _ => ?_ | refine tt ?_ | refine ff ?_ | with_reducible refine wr fun _ _ => ?_ | refine rp fun _ _ _ => ?_ | with_reducible refine bq ?_ | refine cl ?_ | refine sd ?_); cbv)); exact hu.symm
theorem take_next {α : Type} {cs : List α} {q : Int} {z : α} (h0 : 0 ≤ q) (h : cs[q.toNat]? = some z) : cs.take (q + 1).toNat = cs.take q.toNat ++ [z] := by
 rw [show (q + 1).toNat = q.toNat + 1 by omega, List.take_add_one, h]
 rfl
theorem LR_none : LR none3 := ⟨Limbs.nil, Limbs.nil, by decide, by decide⟩
theorem LR_lim (q : Rat) : LR (to3 (lim q)) := by
 unfold lim
 split
 ·rename_i h
  exact LR_ratOf h
 ·exact LR_none
theorem LR_ev (vs xs : List R3) (t : Tm) : LR (to3 (evT vs xs t)) := by
 unfold evT addS subS mulS divS powS
 repeat' split
 all_goals first | exact LR_lim _ | exact LR_neg | exact LR_none
theorem LR_evN (c : List Tm) (xs : List R3) (nd : List Bool) : ∀ i, ∀ a ∈ (evN c xs nd i).1, LR a
 | 0, a, h => by
  rw [(List.mem_replicate.1 h).2]
  exact LR_none
 | i + 1, a, h => by
  unfold evN evStep at h
  repeat' split at h
  ·rcases List.mem_or_eq_of_mem_set h with h | h
   ·exact LR_evN c xs nd i a h
   ·rw [h]
    exact LR_ev _ _ _
  all_goals exact LR_evN c xs nd i a h
theorem LR_of (c : List Tm) (i : Int) (xs : List R3) : LR (to3 (ofS c i xs)) := by
 unfold ofS
 split
 ·split
  ·show LR (at3 _ i)
   unfold at3
   cases e : (evN c xs (needs c i.toNat) (i.toNat + 1)).1[i.toNat]? with
   | none => exact LR_none
   | some a => exact LR_evN _ _ _ _ a (List.mem_of_getElem? e)
  ·exact LR_none
 ·exact LR_none
def TermP (k a b n : Int) (s : Bool) (cl cd : Int) (g : Bool) (i : Int) : Prop :=
  (k = 1 ∧ a = 0 ∧ b = 0 ∧ n = 0 ∧ g = true) ∨ (k ≠ 1 ∧ s = false ∧ cl = 0 ∧ cd = 0 ∧
    ((k = 2 ∧ a = 0 ∧ b = 0 ∧ 0 ≤ n) ∨ (k = 7 ∧ b = 0 ∧ n = 0 ∧ 0 ≤ a ∧ a < i) ∨ (k = 8 ∧ b = 0 ∧ 0 ≤ a ∧ a < i ∧ -128 ≤ n ∧ n ≤ 128) ∨
     (twoB k = true ∧ n = 0 ∧ 0 ≤ a ∧ a < i ∧ 0 ≤ b ∧ b < i)))
theorem termOk_iff {t : Tm} {i : Int} : termOk t i = true ↔ TermP t.k t.a t.b t.n t.q.1 (cnt t.q.2.1) (cnt t.q.2.2) (goodB t.q) i := by
  obtain ⟨k, a, b, n, s, l, d⟩ := t
  unfold termOk noneB kid TermP twoB
  dsimp only
  generalize goodB (s, l, d) = g
  generalize cnt l = cl
  generalize cnt d = cd
  by_cases h1 : k = 1
  · subst h1
    simp [and_assoc]
  rw [if_neg h1]
  by_cases h2 : k = 2
  · subst h2
    cases s <;> simp [and_assoc]
  rw [if_neg h2]
  by_cases h7 : k = 7
  · subst h7
    cases s <;> simp [and_assoc]
  rw [if_neg h7]
  by_cases h8 : k = 8
  · subst h8
    cases s <;> simp [and_assoc]
  rw [if_neg h8]
  by_cases h9 : k = 3 ∨ k = 4 ∨ k = 5 ∨ k = 6
  · rw [if_pos h9]
    cases s <;> simp [h1, h2, h7, h8, h9, and_assoc]
  · rw [if_neg h9]
    cases s <;> simp [h1, h2, h7, h8, h9]
theorem good19_ok : SoundF Tryz.prog 41 cgoodR := sound [(44, goodR), (28, isTwoR)] (orc_cons good7_ok (orc_cons two_ok orc_nil)) Tryz.func41 (by kernel_rfl) (by kernel_rfl) fun us u hR => by
  obtain ⟨c, hq, hn, rfl, hu⟩ := hR
  obtain ⟨r, hr⟩ : ∃ r, (cnt c).toNat < r := ⟨_, Nat.lt_succ_self _⟩
  refine ⟨r, fun C E hC => ?_⟩
  have kt : ∀ (i : Int) t, c[i.toNat]? = some t → C 44 [.agg [ub t.q.1, .l t.q.2.1, .l t.q.2.2]] (ub (goodB t.q)) := fun i t ht => hC 44 goodR (by simp) _ _ ⟨t.q, hq t (List.mem_of_getElem? ht), rfl, rfl⟩
  have k2 : ∀ k : Int, C 28 [ui k] (ub (twoB k)) := fun k => hC 28 isTwoR (by simp) _ _ ⟨k, rfl, rfl⟩
  have hm := fun i (h0 : 0 ≤ i) (h1 : i < cnt c) => nth_map (c := c) tU h0 h1
  have hc := cnt_map c tU
  have hc0 := cnt0 c
  unfold cU
  generalize c.map tU = xs at *
  cbv
  (repeat ((first | with_reducible refine ln fun _ _ _ => ?_ | refine tt ?_ | refine ff ?_ | with_reducible refine wr fun _ _ => ?_ | refine rp fun _ _ _ => ?_ | with_reducible refine bq ?_ | refine cl ?_ | refine sd ?_); cbv))
  refine lets [0, 3] ?_
  cbv
  refine loop_inv (fun j a h => ∃ i : Int, 0 ≤ i ∧ i ≤ cnt c ∧ j = (cnt c - i).toNat ∧ (∀ (x : Nat) t, (x : Int) < i → c[x]? = some t → termOk t x = true) ∧ a = [.s 7 xs, .lost, .lost, ui i, .lost, .lost, .lost, .lost, .lost, .lost, .lost, .lost, .lost, .lost, .lost, .lost, .lost, .lost, .lost, .lost, .lost, .lost, .lost, .lost, .lost, .lost, .lost, .lost, .lost, .lost, .lost, .lost, .lost, .lost, .lost, .lost, .lost, .lost, .lost, .lost, .lost, .lost, .lost, .lost, .lost, .lost, .lost, .lost, .lost, .lost, .lost, .lost, .lost, .lost, .lost, .lost, .lost, .lost, .lost, .lost, .lost, .lost, .lost, .lost, .lost, .lost, .lost, .lost, .lost, .lost, .lost, .lost, .lost, .lost, .lost, .lost, .lost, .lost, .lost, .lost, .lost, .lost, .lost, .lost, .lost, .lost, .lost, .lost, .lost, .lost, .lost, .lost, .lost, .lost, .lost, .lost, .lost, .lost, .lost, .lost, .lost, .lost, .lost, .lost, .lost, .lost, .lost, .lost, .lost, .lost, .lost, .lost, .lost, .lost, .lost, .lost, .lost, .lost, .lost, .lost, .lost, .lost, .lost, .lost, .lost, .lost, .lost, .lost, .lost, .lost, .lost, .lost, .lost, .lost, .lost, .lost, .lost, .lost, .lost, .lost, .lost, .lost, .lost, .lost, .lost, .lost, .lost, .lost, .lost, .lost, .lost] ∧ h = []) ?_ r (cnt c).toNat _ _ hr ⟨0, by omega, by omega, by omega, fun x t hx _ => absurd hx (by omega), rfl, rfl⟩
  rintro j a h K ⟨i, h0, h1, hj, hg, rfl, rfl⟩ hK
  rcases Decidable.em (i < cnt c) with hlt | hlt
  · obtain ⟨t, ht, hx⟩ := hm i h0 hlt
    have k1 := kt i t ht
    have hT : termOk t i = true → ∀ (x : Nat) t, (x : Int) < i + 1 → c[x]? = some t → termOk t x = true := fun hb x t' hlx hx' => by
      by_cases e : (x : Int) = i
      · have : x = i.toNat := by omega
        rw [this, ht] at hx'
        injection hx' with hx'
        rw [← hx', e]
        exact hb
      · exact hg x t' (by omega) hx'
    have hF : ¬ termOk t i = true → goodC c = false := fun hb => by
      rw [Bool.eq_false_iff]
      intro hh
      have := goodC_iff.1 hh i.toNat t ht
      rw [show ((i.toNat : Nat) : Int) = i by omega] at this
      exact hb this
    rw [termOk_iff] at hT hF
    obtain ⟨kd, ta, tb, m, s, l, d⟩ := t
    have k3 := k2 kd
    dsimp only at hT hF k1
    unfold TermP at hT hF
    have htw : twoB kd = true → kd ≠ 1 ∧ kd ≠ 2 ∧ kd ≠ 7 ∧ kd ≠ 8 := fun h => by
      unfold twoB at h
      have := of_decide_eq_true h
      omega
    generalize goodB (s, l, d) = g at *
    generalize twoB kd = tw at *
    clear kt k2 hm hg ht hq
    have l0 := cnt0 l
    have d0 := cnt0 d
    cbv
    (repeat ((first | with_reducible refine ln fun _ _ _ => ?_ | refine tt ?_ | refine ff ?_ | with_reducible refine wr fun _ _ => ?_ | refine rp fun _ _ _ => ?_ | with_reducible refine bq ?_ | refine cl ?_ | refine sd ?_); cbv))
    refine el ?_ (by omega) hx
    cbv
    rcases Decidable.em (ta < 0) with z1 | z1
    · rw [hF (by rintro (⟨h1, h2, h3, h4, h5⟩ | ⟨h1, h2, h3, h4, h | h | h | h⟩) <;> first | omega | (cases h5; done) | (cases h2; done) | (cases h.1; done) | (have := htw h.1; omega))] at hu
      clear hF hT hK
      (repeat ((first | with_reducible refine ln fun _ _ _ => ?_ | refine tt ?_ | refine ff ?_ | with_reducible refine wr fun _ _ => ?_ | refine rp fun _ _ _ => ?_ | with_reducible refine bq ?_ | refine cl ?_ | refine sd ?_); cbv))
      exact hu.symm
    rcases Decidable.em (tb < 0) with z2 | z2
    · rw [hF (by rintro (⟨h1, h2, h3, h4, h5⟩ | ⟨h1, h2, h3, h4, h | h | h | h⟩) <;> first | omega | (cases h5; done) | (cases h2; done) | (cases h.1; done) | (have := htw h.1; omega))] at hu
      clear hF hT hK
      (repeat ((first | with_reducible refine ln fun _ _ _ => ?_ | refine tt ?_ | refine ff ?_ | with_reducible refine wr fun _ _ => ?_ | refine rp fun _ _ _ => ?_ | with_reducible refine bq ?_ | refine cl ?_ | refine sd ?_); cbv))
      exact hu.symm
    rcases Decidable.em (kd = 1) with y1 | y1
    · skip
      rcases (Decidable.em (ta = 0)).symm with z3 | z3
      · rw [hF (by rintro (⟨h1, h2, h3, h4, h5⟩ | ⟨h1, h2, h3, h4, h | h | h | h⟩) <;> first | omega | (cases h5; done) | (cases h2; done) | (cases h.1; done) | (have := htw h.1; omega))] at hu
        clear hF hT hK
        (repeat ((first | with_reducible refine ln fun _ _ _ => ?_ | refine tt ?_ | refine ff ?_ | with_reducible refine wr fun _ _ => ?_ | refine rp fun _ _ _ => ?_ | with_reducible refine bq ?_ | refine cl ?_ | refine sd ?_); cbv))
        exact hu.symm
      rcases (Decidable.em (tb = 0)).symm with z4 | z4
      · rw [hF (by rintro (⟨h1, h2, h3, h4, h5⟩ | ⟨h1, h2, h3, h4, h | h | h | h⟩) <;> first | omega | (cases h5; done) | (cases h2; done) | (cases h.1; done) | (have := htw h.1; omega))] at hu
        clear hF hT hK
        (repeat ((first | with_reducible refine ln fun _ _ _ => ?_ | refine tt ?_ | refine ff ?_ | with_reducible refine wr fun _ _ => ?_ | refine rp fun _ _ _ => ?_ | with_reducible refine bq ?_ | refine cl ?_ | refine sd ?_); cbv))
        exact hu.symm
      rcases (Decidable.em (m = 0)).symm with z5 | z5
      · rw [hF (by rintro (⟨h1, h2, h3, h4, h5⟩ | ⟨h1, h2, h3, h4, h | h | h | h⟩) <;> first | omega | (cases h5; done) | (cases h2; done) | (cases h.1; done) | (have := htw h.1; omega))] at hu
        clear hF hT hK
        (repeat ((first | with_reducible refine ln fun _ _ _ => ?_ | refine tt ?_ | refine ff ?_ | with_reducible refine wr fun _ _ => ?_ | refine rp fun _ _ _ => ?_ | with_reducible refine bq ?_ | refine cl ?_ | refine sd ?_); cbv))
        exact hu.symm
      cases g
      · rw [hF (by rintro (⟨h1, h2, h3, h4, h5⟩ | ⟨h1, h2, h3, h4, h | h | h | h⟩) <;> first | omega | (cases h5; done) | (cases h2; done) | (cases h.1; done) | (have := htw h.1; omega))] at hu
        clear hF hT hK
        (repeat ((first | with_reducible refine ln fun _ _ _ => ?_ | refine tt ?_ | refine ff ?_ | with_reducible refine wr fun _ _ => ?_ | refine rp fun _ _ _ => ?_ | with_reducible refine bq ?_ | refine cl ?_ | refine sd ?_); cbv))
        exact hu.symm
      have hT := hT (.inl ⟨y1, by omega, by omega, by omega, rfl⟩)
      clear hF
      (repeat ((first | with_reducible refine ln fun _ _ _ => ?_ | refine tt ?_ | refine ff ?_ | with_reducible refine wr fun _ _ => ?_ | refine rp fun _ _ _ => ?_ | with_reducible refine bq ?_ | refine cl ?_ | refine sd ?_); cbv))
      rename_i q' hq'
      refine lets [0, 3] ?_
      exact hK (cnt c - (i + 1)).toNat _ _ (by omega) ⟨i + 1, by omega, by omega, rfl, hT, by rw [hq']; rfl, rfl⟩
    cases s
    rotate_left
    · rw [hF (by rintro (⟨h1, h2, h3, h4, h5⟩ | ⟨h1, h2, h3, h4, h | h | h | h⟩) <;> first | omega | (cases h5; done) | (cases h2; done) | (cases h.1; done) | (have := htw h.1; omega))] at hu
      clear hF hT hK
      (repeat ((first | with_reducible refine ln fun _ _ _ => ?_ | refine tt ?_ | refine ff ?_ | with_reducible refine wr fun _ _ => ?_ | refine rp fun _ _ _ => ?_ | with_reducible refine bq ?_ | refine cl ?_ | refine sd ?_); cbv))
      exact hu.symm
    rcases (Decidable.em (cnt l = 0)).symm with z6 | z6
    · rw [hF (by rintro (⟨h1, h2, h3, h4, h5⟩ | ⟨h1, h2, h3, h4, h | h | h | h⟩) <;> first | omega | (cases h5; done) | (cases h2; done) | (cases h.1; done) | (have := htw h.1; omega))] at hu
      clear hF hT hK
      (repeat ((first | with_reducible refine ln fun _ _ _ => ?_ | refine tt ?_ | refine ff ?_ | with_reducible refine wr fun _ _ => ?_ | refine rp fun _ _ _ => ?_ | with_reducible refine bq ?_ | refine cl ?_ | refine sd ?_); cbv))
      exact hu.symm
    rcases (Decidable.em (cnt d = 0)).symm with z7 | z7
    · rw [hF (by rintro (⟨h1, h2, h3, h4, h5⟩ | ⟨h1, h2, h3, h4, h | h | h | h⟩) <;> first | omega | (cases h5; done) | (cases h2; done) | (cases h.1; done) | (have := htw h.1; omega))] at hu
      clear hF hT hK
      (repeat ((first | with_reducible refine ln fun _ _ _ => ?_ | refine tt ?_ | refine ff ?_ | with_reducible refine wr fun _ _ => ?_ | refine rp fun _ _ _ => ?_ | with_reducible refine bq ?_ | refine cl ?_ | refine sd ?_); cbv))
      exact hu.symm
    rcases Decidable.em (kd = 2) with y2 | y2
    · skip
      rcases (Decidable.em (ta = 0)).symm with z8 | z8
      · rw [hF (by rintro (⟨h1, h2, h3, h4, h5⟩ | ⟨h1, h2, h3, h4, h | h | h | h⟩) <;> first | omega | (cases h5; done) | (cases h2; done) | (cases h.1; done) | (have := htw h.1; omega))] at hu
        clear hF hT hK
        (repeat ((first | with_reducible refine ln fun _ _ _ => ?_ | refine tt ?_ | refine ff ?_ | with_reducible refine wr fun _ _ => ?_ | refine rp fun _ _ _ => ?_ | with_reducible refine bq ?_ | refine cl ?_ | refine sd ?_); cbv))
        exact hu.symm
      rcases (Decidable.em (tb = 0)).symm with z9 | z9
      · rw [hF (by rintro (⟨h1, h2, h3, h4, h5⟩ | ⟨h1, h2, h3, h4, h | h | h | h⟩) <;> first | omega | (cases h5; done) | (cases h2; done) | (cases h.1; done) | (have := htw h.1; omega))] at hu
        clear hF hT hK
        (repeat ((first | with_reducible refine ln fun _ _ _ => ?_ | refine tt ?_ | refine ff ?_ | with_reducible refine wr fun _ _ => ?_ | refine rp fun _ _ _ => ?_ | with_reducible refine bq ?_ | refine cl ?_ | refine sd ?_); cbv))
        exact hu.symm
      rcases (Decidable.em (0 ≤ m)).symm with z10 | z10
      · rw [hF (by rintro (⟨h1, h2, h3, h4, h5⟩ | ⟨h1, h2, h3, h4, h | h | h | h⟩) <;> first | omega | (cases h5; done) | (cases h2; done) | (cases h.1; done) | (have := htw h.1; omega))] at hu
        clear hF hT hK
        (repeat ((first | with_reducible refine ln fun _ _ _ => ?_ | refine tt ?_ | refine ff ?_ | with_reducible refine wr fun _ _ => ?_ | refine rp fun _ _ _ => ?_ | with_reducible refine bq ?_ | refine cl ?_ | refine sd ?_); cbv))
        exact hu.symm
      have hT := hT (.inr ⟨y1, rfl, by omega, by omega, .inl ⟨y2, by omega, by omega, by omega⟩⟩)
      clear hF
      (repeat ((first | with_reducible refine ln fun _ _ _ => ?_ | refine tt ?_ | refine ff ?_ | with_reducible refine wr fun _ _ => ?_ | refine rp fun _ _ _ => ?_ | with_reducible refine bq ?_ | refine cl ?_ | refine sd ?_); cbv))
      rename_i q' hq'
      refine lets [0, 3] ?_
      exact hK (cnt c - (i + 1)).toNat _ _ (by omega) ⟨i + 1, by omega, by omega, rfl, hT, by rw [hq']; rfl, rfl⟩
    rcases Decidable.em (kd = 7) with y7 | y7
    · skip
      rcases (Decidable.em (ta < i)).symm with z11 | z11
      · rw [hF (by rintro (⟨h1, h2, h3, h4, h5⟩ | ⟨h1, h2, h3, h4, h | h | h | h⟩) <;> first | omega | (cases h5; done) | (cases h2; done) | (cases h.1; done) | (have := htw h.1; omega))] at hu
        clear hF hT hK
        (repeat ((first | with_reducible refine ln fun _ _ _ => ?_ | refine tt ?_ | refine ff ?_ | with_reducible refine wr fun _ _ => ?_ | refine rp fun _ _ _ => ?_ | with_reducible refine bq ?_ | refine cl ?_ | refine sd ?_); cbv))
        exact hu.symm
      rcases (Decidable.em (tb = 0)).symm with z12 | z12
      · rw [hF (by rintro (⟨h1, h2, h3, h4, h5⟩ | ⟨h1, h2, h3, h4, h | h | h | h⟩) <;> first | omega | (cases h5; done) | (cases h2; done) | (cases h.1; done) | (have := htw h.1; omega))] at hu
        clear hF hT hK
        (repeat ((first | with_reducible refine ln fun _ _ _ => ?_ | refine tt ?_ | refine ff ?_ | with_reducible refine wr fun _ _ => ?_ | refine rp fun _ _ _ => ?_ | with_reducible refine bq ?_ | refine cl ?_ | refine sd ?_); cbv))
        exact hu.symm
      rcases (Decidable.em (m = 0)).symm with z13 | z13
      · rw [hF (by rintro (⟨h1, h2, h3, h4, h5⟩ | ⟨h1, h2, h3, h4, h | h | h | h⟩) <;> first | omega | (cases h5; done) | (cases h2; done) | (cases h.1; done) | (have := htw h.1; omega))] at hu
        clear hF hT hK
        (repeat ((first | with_reducible refine ln fun _ _ _ => ?_ | refine tt ?_ | refine ff ?_ | with_reducible refine wr fun _ _ => ?_ | refine rp fun _ _ _ => ?_ | with_reducible refine bq ?_ | refine cl ?_ | refine sd ?_); cbv))
        exact hu.symm
      have hT := hT (.inr ⟨y1, rfl, by omega, by omega, .inr (.inl ⟨y7, by omega, by omega, by omega, by omega⟩)⟩)
      clear hF
      (repeat ((first | with_reducible refine ln fun _ _ _ => ?_ | refine tt ?_ | refine ff ?_ | with_reducible refine wr fun _ _ => ?_ | refine rp fun _ _ _ => ?_ | with_reducible refine bq ?_ | refine cl ?_ | refine sd ?_); cbv))
      rename_i q' hq'
      refine lets [0, 3] ?_
      exact hK (cnt c - (i + 1)).toNat _ _ (by omega) ⟨i + 1, by omega, by omega, rfl, hT, by rw [hq']; rfl, rfl⟩
    rcases Decidable.em (kd = 8) with y8 | y8
    · skip
      rcases (Decidable.em (ta < i)).symm with z14 | z14
      · rw [hF (by rintro (⟨h1, h2, h3, h4, h5⟩ | ⟨h1, h2, h3, h4, h | h | h | h⟩) <;> first | omega | (cases h5; done) | (cases h2; done) | (cases h.1; done) | (have := htw h.1; omega))] at hu
        clear hF hT hK
        (repeat ((first | with_reducible refine ln fun _ _ _ => ?_ | refine tt ?_ | refine ff ?_ | with_reducible refine wr fun _ _ => ?_ | refine rp fun _ _ _ => ?_ | with_reducible refine bq ?_ | refine cl ?_ | refine sd ?_); cbv))
        exact hu.symm
      rcases (Decidable.em (tb = 0)).symm with z15 | z15
      · rw [hF (by rintro (⟨h1, h2, h3, h4, h5⟩ | ⟨h1, h2, h3, h4, h | h | h | h⟩) <;> first | omega | (cases h5; done) | (cases h2; done) | (cases h.1; done) | (have := htw h.1; omega))] at hu
        clear hF hT hK
        (repeat ((first | with_reducible refine ln fun _ _ _ => ?_ | refine tt ?_ | refine ff ?_ | with_reducible refine wr fun _ _ => ?_ | refine rp fun _ _ _ => ?_ | with_reducible refine bq ?_ | refine cl ?_ | refine sd ?_); cbv))
        exact hu.symm
      rcases (Decidable.em (-128 ≤ m)).symm with z16 | z16
      · rw [hF (by rintro (⟨h1, h2, h3, h4, h5⟩ | ⟨h1, h2, h3, h4, h | h | h | h⟩) <;> first | omega | (cases h5; done) | (cases h2; done) | (cases h.1; done) | (have := htw h.1; omega))] at hu
        clear hF hT hK
        (repeat ((first | with_reducible refine ln fun _ _ _ => ?_ | refine tt ?_ | refine ff ?_ | with_reducible refine wr fun _ _ => ?_ | refine rp fun _ _ _ => ?_ | with_reducible refine bq ?_ | refine cl ?_ | refine sd ?_); cbv))
        exact hu.symm
      rcases (Decidable.em (m ≤ 128)).symm with z17 | z17
      · rw [hF (by rintro (⟨h1, h2, h3, h4, h5⟩ | ⟨h1, h2, h3, h4, h | h | h | h⟩) <;> first | omega | (cases h5; done) | (cases h2; done) | (cases h.1; done) | (have := htw h.1; omega))] at hu
        clear hF hT hK
        (repeat ((first | with_reducible refine ln fun _ _ _ => ?_ | refine tt ?_ | refine ff ?_ | with_reducible refine wr fun _ _ => ?_ | refine rp fun _ _ _ => ?_ | with_reducible refine bq ?_ | refine cl ?_ | refine sd ?_); cbv))
        exact hu.symm
      have hT := hT (.inr ⟨y1, rfl, by omega, by omega, .inr (.inr (.inl ⟨y8, by omega, by omega, by omega, by omega, by omega⟩))⟩)
      clear hF
      (repeat ((first | with_reducible refine ln fun _ _ _ => ?_ | refine tt ?_ | refine ff ?_ | with_reducible refine wr fun _ _ => ?_ | refine rp fun _ _ _ => ?_ | with_reducible refine bq ?_ | refine cl ?_ | refine sd ?_); cbv))
      rename_i q' hq'
      refine lets [0, 3] ?_
      exact hK (cnt c - (i + 1)).toNat _ _ (by omega) ⟨i + 1, by omega, by omega, rfl, hT, by rw [hq']; rfl, rfl⟩
    cases tw
    · rw [hF (by rintro (⟨h1, h2, h3, h4, h5⟩ | ⟨h1, h2, h3, h4, h | h | h | h⟩) <;> first | omega | (cases h5; done) | (cases h2; done) | (cases h.1; done) | (have := htw h.1; omega))] at hu
      clear hF hT hK
      (repeat ((first | with_reducible refine ln fun _ _ _ => ?_ | refine tt ?_ | refine ff ?_ | with_reducible refine wr fun _ _ => ?_ | refine rp fun _ _ _ => ?_ | with_reducible refine bq ?_ | refine cl ?_ | refine sd ?_); cbv))
      exact hu.symm
    rcases (Decidable.em (ta < i)).symm with z18 | z18
    · rw [hF (by rintro (⟨h1, h2, h3, h4, h5⟩ | ⟨h1, h2, h3, h4, h | h | h | h⟩) <;> first | omega | (cases h5; done) | (cases h2; done) | (cases h.1; done) | (have := htw h.1; omega))] at hu
      clear hF hT hK
      (repeat ((first | with_reducible refine ln fun _ _ _ => ?_ | refine tt ?_ | refine ff ?_ | with_reducible refine wr fun _ _ => ?_ | refine rp fun _ _ _ => ?_ | with_reducible refine bq ?_ | refine cl ?_ | refine sd ?_); cbv))
      exact hu.symm
    rcases (Decidable.em (tb < i)).symm with z19 | z19
    · rw [hF (by rintro (⟨h1, h2, h3, h4, h5⟩ | ⟨h1, h2, h3, h4, h | h | h | h⟩) <;> first | omega | (cases h5; done) | (cases h2; done) | (cases h.1; done) | (have := htw h.1; omega))] at hu
      clear hF hT hK
      (repeat ((first | with_reducible refine ln fun _ _ _ => ?_ | refine tt ?_ | refine ff ?_ | with_reducible refine wr fun _ _ => ?_ | refine rp fun _ _ _ => ?_ | with_reducible refine bq ?_ | refine cl ?_ | refine sd ?_); cbv))
      exact hu.symm
    rcases (Decidable.em (m = 0)).symm with z20 | z20
    · rw [hF (by rintro (⟨h1, h2, h3, h4, h5⟩ | ⟨h1, h2, h3, h4, h | h | h | h⟩) <;> first | omega | (cases h5; done) | (cases h2; done) | (cases h.1; done) | (have := htw h.1; omega))] at hu
      clear hF hT hK
      (repeat ((first | with_reducible refine ln fun _ _ _ => ?_ | refine tt ?_ | refine ff ?_ | with_reducible refine wr fun _ _ => ?_ | refine rp fun _ _ _ => ?_ | with_reducible refine bq ?_ | refine cl ?_ | refine sd ?_); cbv))
      exact hu.symm
    have hT := hT (.inr ⟨y1, rfl, by omega, by omega, .inr (.inr (.inr ⟨rfl, by omega, by omega, by omega, by omega, by omega⟩))⟩)
    clear hF
    (repeat ((first | with_reducible refine ln fun _ _ _ => ?_ | refine tt ?_ | refine ff ?_ | with_reducible refine wr fun _ _ => ?_ | refine rp fun _ _ _ => ?_ | with_reducible refine bq ?_ | refine cl ?_ | refine sd ?_); cbv))
    rename_i q' hq'
    refine lets [0, 3] ?_
    exact hK (cnt c - (i + 1)).toNat _ _ (by omega) ⟨i + 1, by omega, by omega, rfl, hT, by rw [hq']; rfl, rfl⟩
  · rw [goodC_iff.2 fun x t hx => hg x t (by have := (List.getElem?_eq_some_iff.1 hx).1; unfold cnt at h1 hlt; omega) hx] at hu
    clear hg
    cbv
    (repeat ((first | with_reducible refine ln fun _ _ _ => ?_ | refine tt ?_ | refine ff ?_ | with_reducible refine wr fun _ _ => ?_ | refine rp fun _ _ _ => ?_ | with_reducible refine bq ?_ | refine cl ?_ | refine sd ?_); cbv))
    exact hu.symm
theorem kids_none {t : Tm} (h : t.k = 1 ∨ t.k = 2) : kids t = [] := by unfold kids; rw [if_neg (by omega), if_neg (by omega)]
theorem kids_one {t : Tm} (h : t.k = 7 ∨ t.k = 8) : kids t = [t.a] := by unfold kids; rw [if_pos h]
theorem kids_two {t : Tm} (h : t.k = 3 ∨ t.k = 4 ∨ t.k = 5 ∨ t.k = 6) : kids t = [t.a, t.b] := by unfold kids; rw [if_neg (by omega), if_pos h]
theorem needs20_ok : SoundF Tryz.prog 21 needsR := sound [(41, cgoodR), (28, isTwoR)] (orc_cons good19_ok (orc_cons two_ok orc_nil)) Tryz.func21 (by kernel_rfl) (by kernel_rfl) fun us u hR => by
 obtain ⟨c, i, hq, hn, rfl, hu⟩ := hR
 obtain ⟨r, hr⟩ : ∃ r, (cnt c).toNat + 10 < r := ⟨_, Nat.lt_succ_self _⟩
 refine ⟨r, fun C E hC => ?_⟩
 have kg := hC 41 cgoodR (by simp) _ _ ⟨c, hq, by omega, rfl, rfl⟩
 have k2 : ∀ k : Int, C 28 [ui k] (ub (twoB k)) := fun k => hC 28 isTwoR (by simp) _ _ ⟨k, rfl, rfl⟩
 have hm := fun i (h0 : 0 ≤ i) (h1 : i < cnt c) => nth_map (c := c) tU h0 h1
 have hc := cnt_map c tU
 have hc0 := cnt0 c
 unfold needsU mayC at hu
 have hgood : goodC c = true → ∀ (k : Int) t, 0 ≤ k → c[k.toNat]? = some t → termOk t k = true := fun h q t h0 ht => by
  have := goodC_iff.1 h q.toNat t ht
  rwa [show (q.toNat : Int) = q by omega] at this
 clear hC hq
 unfold cU at kg ⊢
 obtain ⟨uB, huB⟩ : ∃ f : List Bool → Rows, f = Rd.uB := ⟨_, rfl⟩
 have uB_len : ∀ s, cnt (uB s) = cnt s := fun s => by rw [huB]; exact Rd.uB_len s
 have uB_nth : ∀ {s : List Bool} {k : Int}, 0 ≤ k → k < cnt s → ∃ b, s[k.toNat]? = some b ∧ (uB s)[k.toNat]? = some [ub b] := fun {s k} h0 h1 => by rw [huB]; exact Rd.uB_nth h0 h1
 have uB_set : ∀ (s : List Bool) (k : Nat) (b : Bool), (uB s).set k [ub b] = uB (s.set k b) := fun s k b => by rw [huB]; exact Rd.uB_set s k b
 rw [← huB] at hu
 generalize c.map tU = xs at *
 generalize goodC c = g at *
 cbv
 cases g
 ·rw [Bool.and_false, if_neg (by simp)] at hu
  (repeat ((first | with_reducible refine ln fun _ _ _ => ?_ | refine tt ?_ | refine ff ?_ | refine tt ?_ rfl | with_reducible refine wr fun _ _ => ?_ | refine rp fun _ _ _ => ?_ | with_reducible refine bq ?_ | refine cl ?_ | refine sd ?_); cbv)); exact hu.symm
 rcases Decidable.em (0 ≤ i) with h1 | h1
 case inr =>
  rw [decide_eq_false h1, Bool.false_and, Bool.false_and, if_neg (by simp)] at hu
  (repeat ((first | with_reducible refine ln fun _ _ _ => ?_ | refine tt ?_ | refine ff ?_ | refine tt ?_ rfl | with_reducible refine wr fun _ _ => ?_ | refine rp fun _ _ _ => ?_ | with_reducible refine bq ?_ | refine cl ?_ | refine sd ?_); cbv)); exact hu.symm
 rcases Decidable.em (i < cnt c) with h2 | h2
 case inr =>
  rw [decide_eq_false h2, Bool.and_false, Bool.false_and, if_neg (by simp)] at hu
  (repeat ((first | with_reducible refine ln fun _ _ _ => ?_ | refine tt ?_ | refine ff ?_ | refine tt ?_ rfl | with_reducible refine wr fun _ _ => ?_ | refine rp fun _ _ _ => ?_ | with_reducible refine bq ?_ | refine cl ?_ | refine sd ?_); cbv)); exact hu.symm
 rw [decide_eq_true h1, decide_eq_true h2, Bool.true_and, Bool.true_and, if_pos rfl] at hu
 have hgood := hgood rfl
 (repeat ((first | with_reducible refine ln fun _ _ _ => ?_ | refine tt ?_ | refine ff ?_ | refine tt ?_ rfl | with_reducible refine wr fun _ _ => ?_ | refine rp fun _ _ _ => ?_ | with_reducible refine bq ?_ | refine cl ?_ | refine sd ?_); cbv))
 rename_i n0 hn0 hn0' n hn hn' rs hrs hrc
 refine el (us := [ub false]) ?_ (by omega) (by rw [hrs, List.getElem?_replicate, if_pos (by omega)])
 cbv
 refine se fun ys e hyc => ?_
 have e2 : ys = uB ((List.replicate c.length false).set i.toNat true) := by
  rw [e, hrs, ← uB_set, huB]
  unfold Rd.uB
  rw [List.map_replicate]
  congr 2
  unfold cnt at hc hn
  omega
 have hnc : n = cnt c := by omega
 obtain ⟨s0, hs0⟩ : ∃ s0, s0 = (List.replicate c.length false).set i.toNat true := ⟨_, rfl⟩
 rw [← hs0] at e2
 clear e hrs hyc hrc
 subst e2
 cbv
 (repeat ((first | with_reducible refine ln fun _ _ _ => ?_ | refine tt ?_ | refine ff ?_ | refine tt ?_ rfl | with_reducible refine wr fun _ _ => ?_ | refine rp fun _ _ _ => ?_ | with_reducible refine bq ?_ | refine cl ?_ | refine sd ?_); cbv))
 refine lets [0, 5, 6] ?_
 cbv
 refine loop_inv (fun j a h => ∃ (k : Int) (s : List Bool), -1 ≤ k ∧ k ≤ i ∧ j = (k + 1).toNat ∧ cnt s = cnt c ∧ down c (k + 1).toNat s = needs c i.toNat ∧ a = [.s 7 xs, .lost, .lost, .lost, .lost, .sl 0 n n 1, ui k, .lost, .lost, .lost, .lost, .lost, .lost, .lost, .lost, .lost, .lost, .lost, .lost, .lost, .lost, .lost, .lost, .lost, .lost, .lost, .lost, .lost, .lost, .lost, .lost, .lost, .lost, .lost, .lost, .lost, .lost, .lost, .lost, .lost, .lost, .lost, .lost, .lost, .lost, .lost, .lost, .lost, .lost, .lost, .lost, .lost, .lost, .lost, .lost, .lost, .lost, .lost, .lost, .lost, .lost] ∧ h = [some (.row 1 (uB s))]) ?_ r (i + 1).toNat _ _ (by omega) ⟨i, s0, by omega, by omega, rfl, by rw [hs0]; unfold cnt; rw [List.length_set, List.length_replicate], by rw [hs0, show (i + 1).toNat = i.toNat + 1 by omega]; rfl, rfl, rfl⟩
 rintro j a h K ⟨k, s, h3, h4, hj, hsc, hd, rfl, rfl⟩ hK
 rcases Decidable.em (0 ≤ k) with h5 | h5
 ·obtain ⟨b, hb, hx⟩ := uB_nth (s := s) h5 (by omega)
  cases b
  ·rw [down_no h5 hb] at hd
   cbv
   (repeat ((first | with_reducible refine ln fun _ _ _ => ?_ | refine tt ?_ | refine ff ?_ | refine tt ?_ rfl | with_reducible refine wr fun _ _ => ?_ | refine rp fun _ _ _ => ?_ | with_reducible refine bq ?_ | refine cl ?_ | refine sd ?_); cbv))
   refine el ?_ (by omega) hx
   cbv
   (repeat ((first | with_reducible refine ln fun _ _ _ => ?_ | refine tt ?_ | refine ff ?_ | refine tt ?_ rfl | with_reducible refine wr fun _ _ => ?_ | refine rp fun _ _ _ => ?_ | with_reducible refine bq ?_ | refine cl ?_ | refine sd ?_); cbv))
   rename_i k' hk'
   refine lets [0, 5, 6] ?_
   refine hK k.toNat _ _ (by omega) ⟨k - 1, s, by omega, by omega, by omega, hsc, ?_, by rw [hk']; rfl, rfl⟩
   rw [show k - 1 + 1 = k by omega]
   exact hd
  ·obtain ⟨t, ht, hx2⟩ := hm k h5 (by omega)
   rw [down_yes h5 hb ht] at hd
   have k3 := k2 t.k
   have hco := term_cases (hgood k t h5 ht)
   have h0 := kids_none (t := t)
   have h1' := kids_one (t := t)
   have h2' := kids_two (t := t)
   obtain ⟨kd, ta, tb, tn, ts, tl, td⟩ := t
   dsimp only at hco h0 h1' h2' k3
   clear hgood hm k2 ht
   rcases hco with h | ⟨h, _⟩ | ⟨h, ha, hb2⟩ | h
   ·rw [h0 (.inl h)] at hd
    cbv
    (repeat ((first | with_reducible refine ln fun _ _ _ => ?_ | refine tt ?_ | refine ff ?_ | refine tt ?_ rfl | with_reducible refine wr fun _ _ => ?_ | refine rp fun _ _ _ => ?_ | with_reducible refine bq ?_ | refine cl ?_ | refine sd ?_); cbv))
    refine el ?_ (by omega) hx
    cbv
    (repeat ((first | with_reducible refine ln fun _ _ _ => ?_ | refine tt ?_ | refine ff ?_ | refine tt ?_ rfl | with_reducible refine wr fun _ _ => ?_ | refine rp fun _ _ _ => ?_ | with_reducible refine bq ?_ | refine cl ?_ | refine sd ?_); cbv))
    refine el ?_ (by omega) hx2
    subst h
    cbv
    (repeat ((first | with_reducible refine ln fun _ _ _ => ?_ | refine tt ?_ | refine ff ?_ | refine tt ?_ rfl | with_reducible refine wr fun _ _ => ?_ | refine rp fun _ _ _ => ?_ | with_reducible refine bq ?_ | refine cl ?_ | refine sd ?_); cbv))
    rename_i k' hk'
    refine lets [0, 5, 6] ?_
    refine hK k.toNat _ _ (by omega) ⟨k - 1, s, by omega, by omega, by omega, hsc, ?_, by rw [hk']; rfl, rfl⟩
    rw [show k - 1 + 1 = k by omega]
    exact hd
   ·rw [h0 (.inr h)] at hd
    cbv
    (repeat ((first | with_reducible refine ln fun _ _ _ => ?_ | refine tt ?_ | refine ff ?_ | refine tt ?_ rfl | with_reducible refine wr fun _ _ => ?_ | refine rp fun _ _ _ => ?_ | with_reducible refine bq ?_ | refine cl ?_ | refine sd ?_); cbv))
    refine el ?_ (by omega) hx
    cbv
    (repeat ((first | with_reducible refine ln fun _ _ _ => ?_ | refine tt ?_ | refine ff ?_ | refine tt ?_ rfl | with_reducible refine wr fun _ _ => ?_ | refine rp fun _ _ _ => ?_ | with_reducible refine bq ?_ | refine cl ?_ | refine sd ?_); cbv))
    refine el ?_ (by omega) hx2
    subst h
    cbv
    (repeat ((first | with_reducible refine ln fun _ _ _ => ?_ | refine tt ?_ | refine ff ?_ | refine tt ?_ rfl | with_reducible refine wr fun _ _ => ?_ | refine rp fun _ _ _ => ?_ | with_reducible refine bq ?_ | refine cl ?_ | refine sd ?_); cbv))
    rename_i k' hk'
    refine lets [0, 5, 6] ?_
    refine hK k.toNat _ _ (by omega) ⟨k - 1, s, by omega, by omega, by omega, hsc, ?_, by rw [hk']; rfl, rfl⟩
    rw [show k - 1 + 1 = k by omega]
    exact hd
   ·rw [h2' h] at hd
    have hd : down c k.toNat ((s.set ta.toNat true).set tb.toNat true) = needs c i.toNat := hd
    rw [show twoB kd = true by unfold twoB; exact decide_eq_true h] at k3
    obtain ⟨b1, hb1, hx3⟩ := uB_nth (s := s) (k := ta) ha.1 (by omega)
    obtain ⟨s1, hs1⟩ : ∃ s1, s1 = s.set ta.toNat true := ⟨_, rfl⟩
    have hsc1 : cnt s1 = cnt s := by rw [hs1]; unfold cnt; rw [List.length_set]
    obtain ⟨b3, hb3, hx4⟩ := uB_nth (s := s1) (k := tb) hb2.1 (by omega)
    cbv
    (repeat ((first | with_reducible refine ln fun _ _ _ => ?_ | refine tt ?_ | refine ff ?_ | refine tt ?_ rfl | with_reducible refine wr fun _ _ => ?_ | refine rp fun _ _ _ => ?_ | with_reducible refine bq ?_ | refine cl ?_ | refine sd ?_); cbv))
    refine el ?_ (by omega) hx
    cbv
    (repeat ((first | with_reducible refine ln fun _ _ _ => ?_ | refine tt ?_ | refine ff ?_ | refine tt ?_ rfl | with_reducible refine wr fun _ _ => ?_ | refine rp fun _ _ _ => ?_ | with_reducible refine bq ?_ | refine cl ?_ | refine sd ?_); cbv))
    refine el ?_ (by omega) hx2
    cbv
    (repeat ((first | with_reducible refine ln fun _ _ _ => ?_ | refine tt ?_ | refine ff ?_ | refine tt ?_ rfl | with_reducible refine wr fun _ _ => ?_ | refine rp fun _ _ _ => ?_ | with_reducible refine bq ?_ | refine cl ?_ | refine sd ?_); cbv))
    refine el ?_ (by omega) hx3
    cbv
    refine se fun ys e hyc => ?_
    have e2 : ys = uB s1 := by rw [e, hs1, ← uB_set]
    clear e hyc
    subst e2
    cbv
    (repeat ((first | with_reducible refine ln fun _ _ _ => ?_ | refine tt ?_ | refine ff ?_ | refine tt ?_ rfl | with_reducible refine wr fun _ _ => ?_ | refine rp fun _ _ _ => ?_ | with_reducible refine bq ?_ | refine cl ?_ | refine sd ?_); cbv))
    refine el ?_ (by omega) hx4
    cbv
    refine se fun ys e hyc => ?_
    obtain ⟨s2, hs2⟩ : ∃ s2, s2 = s1.set tb.toNat true := ⟨_, rfl⟩
    have e2 : ys = uB s2 := by rw [e, hs2, ← uB_set]
    have hsc2 : cnt s2 = cnt s1 := by rw [hs2]; unfold cnt; rw [List.length_set]
    clear e hyc
    subst e2
    cbv
    (repeat ((first | with_reducible refine ln fun _ _ _ => ?_ | refine tt ?_ | refine ff ?_ | refine tt ?_ rfl | with_reducible refine wr fun _ _ => ?_ | refine rp fun _ _ _ => ?_ | with_reducible refine bq ?_ | refine cl ?_ | refine sd ?_); cbv))
    rename_i k' hk'
    refine lets [0, 5, 6] ?_
    refine hK k.toNat _ _ (by omega) ⟨k - 1, s2, by omega, by omega, by omega, by omega, ?_, by rw [hk']; rfl, rfl⟩
    rw [show k - 1 + 1 = k by omega, hs2, hs1]
    exact hd
   ·have hk78 : kd = 7 ∨ kd = 8 := h.elim (fun h => .inl h.1) fun h => .inr h.1
    have ha : 0 ≤ ta ∧ ta < k := h.elim (fun h => h.2) fun h => h.2.1
    rw [h1' hk78] at hd
    have hd : down c k.toNat (s.set ta.toNat true) = needs c i.toNat := hd
    rw [show twoB kd = false by unfold twoB; exact decide_eq_false (by omega)] at k3
    obtain ⟨b1, hb1, hx3⟩ := uB_nth (s := s) (k := ta) ha.1 (by omega)
    clear h
    cbv
    (repeat ((first | with_reducible refine ln fun _ _ _ => ?_ | refine tt ?_ | refine ff ?_ | refine tt ?_ rfl | with_reducible refine wr fun _ _ => ?_ | refine rp fun _ _ _ => ?_ | with_reducible refine bq ?_ | refine cl ?_ | refine sd ?_); cbv))
    refine el ?_ (by omega) hx
    cbv
    (repeat ((first | with_reducible refine ln fun _ _ _ => ?_ | refine tt ?_ | refine ff ?_ | refine tt ?_ rfl | with_reducible refine wr fun _ _ => ?_ | refine rp fun _ _ _ => ?_ | with_reducible refine bq ?_ | refine cl ?_ | refine sd ?_); cbv))
    refine el ?_ (by omega) hx2
    cbv
    (repeat ((first | with_reducible refine ln fun _ _ _ => ?_ | refine tt ?_ | refine ff ?_ | refine tt ?_ rfl | with_reducible refine wr fun _ _ => ?_ | refine rp fun _ _ _ => ?_ | with_reducible refine bq ?_ | refine cl ?_ | refine sd ?_); cbv))
    refine el ?_ (by omega) hx3
    cbv
    refine se fun ys e hyc => ?_
    obtain ⟨s1, hs1⟩ : ∃ s1, s1 = s.set ta.toNat true := ⟨_, rfl⟩
    have e2 : ys = uB s1 := by rw [e, hs1, ← uB_set]
    have hsc1 : cnt s1 = cnt s := by rw [hs1]; unfold cnt; rw [List.length_set]
    clear e hyc
    subst e2
    cbv
    (repeat ((first | with_reducible refine ln fun _ _ _ => ?_ | refine tt ?_ | refine ff ?_ | refine tt ?_ rfl | with_reducible refine wr fun _ _ => ?_ | refine rp fun _ _ _ => ?_ | with_reducible refine bq ?_ | refine cl ?_ | refine sd ?_); cbv))
    rename_i k' hk'
    refine lets [0, 5, 6] ?_
    refine hK k.toNat _ _ (by omega) ⟨k - 1, s1, by omega, by omega, by omega, by omega, ?_, by rw [hk']; rfl, rfl⟩
    rw [show k - 1 + 1 = k by omega, hs1]
    exact hd
 ·rw [show (k + 1).toNat = 0 by omega] at hd
  unfold down at hd
  have hsl := uB_len s
  rw [← hd] at hu
  cbv
  (repeat ((first | refine ln fun _ _ _ => ?_ | refine tt ?_ | refine ff ?_ | refine wr fun _ _ => ?_ | refine rp fun _ _ _ => ?_ | with_reducible refine bq ?_ | refine cl ?_ | refine sd ?_ | intro _ _); cbv))
  rename_i ys e
  rw [hu, e, List.take_of_length_le (by unfold cnt at *; omega)]
def mayR (us : List U) (u : U) : Prop := ∃ c i xs, (∀ t ∈ c, LB t.q) ∧ cnt c ≤ 1000000 ∧ (∀ a ∈ xs, LB a) ∧ cnt xs ≤ 1000000 ∧ us = [cU c, ui i, qsU xs] ∧ u = ub (madeB c i xs)
theorem may_ok : SoundF Tryz.prog 25 mayR := sound [(21, needsR), (44, goodR)] (orc_cons needs20_ok (orc_cons good7_ok orc_nil)) Tryz.func25 (by kernel_rfl) (by kernel_rfl) fun us u hR => by
 obtain ⟨c, i, xs, hq, hn, hx, hxn, rfl, hu⟩ := hR
 obtain ⟨r, hr⟩ : ∃ r, (cnt c).toNat + (cnt xs).toNat + 10 < r := ⟨_, Nat.lt_succ_self _⟩
 refine ⟨r, fun C E hC => ?_⟩
 have k1 := hC 21 needsR (by simp) _ _ ⟨c, i, hq, hn, rfl, rfl⟩
 have kg : ∀ (j : Int) a, xs[j.toNat]? = some a → C 44 [.agg (qU a)] (ub (goodB a)) := fun j a ha => hC 44 goodR (by simp) _ _ ⟨a, hx a (List.mem_of_getElem? ha), rfl, rfl⟩
 have hcn := fun i (h0 : 0 ≤ i) (h1 : i < cnt c) => nth_map (c := c) tU h0 h1
 have hxm := fun i (h0 : 0 ≤ i) (h1 : i < cnt xs) => nth_map (c := xs) qU h0 h1
 have hc := cnt_map c tU
 have hxc := cnt_map xs qU
 have hc0 := cnt0 c
 have hx0 := cnt0 xs
 have hnl := needs_len c i.toNat
 have hle := fun (h : mayC c i = true) (j : Nat) => needs_le (c := c) (ahead_of (by unfold mayC at h; simp only [Bool.and_eq_true] at h; exact h.2)) (i := i.toNat) (j := j)
 unfold madeB at hu
 unfold needsU at k1
 clear hC hx hq
 unfold cU qsU at *
 generalize c.map tU = cs at *
 generalize xs.map qU = ys at *
 have hmay : mayC c i = true → 0 ≤ i ∧ i < cnt c := fun h => by
  unfold mayC at h
  simp only [Bool.and_eq_true, decide_eq_true_eq] at h
  exact h.1
 cases hmc : mayC c i
 ·rw [hmc, if_neg (by simp)] at k1
  rw [hmc, Bool.false_and, Bool.false_and] at hu
  clear hle kg
  cbv
  (repeat ((first | with_reducible refine ln fun _ _ _ => ?_ | refine tt ?_ | refine ff ?_ | refine tt ?_ rfl | with_reducible refine wr fun _ _ => ?_ | refine rp fun _ _ _ => ?_ | with_reducible refine bq ?_ | refine cl ?_ | refine sd ?_); cbv))
  exact hu.symm
 rw [hmc, if_pos rfl] at k1
 rw [hmc, Bool.true_and] at hu
 have hle := hle hmc
 obtain ⟨hi0, hi1⟩ := hmay hmc
 clear hmay hmc
 generalize needs c i.toNat = nd at *
 have hnx := fun j (h0 : 0 ≤ j) (h1 : j < cnt nd) => uB_nth (s := nd) h0 h1
 have hnc := uB_len nd
 generalize uB nd = nds at *
 cbv
 (repeat ((first | with_reducible refine ln fun _ _ _ => ?_ | refine tt ?_ | refine ff ?_ | refine tt ?_ rfl | with_reducible refine wr fun _ _ => ?_ | refine rp fun _ _ _ => ?_ | with_reducible refine bq ?_ | refine cl ?_ | refine sd ?_); cbv))
 refine lets [0, 1, 2, 7, 8] ?_
 cbv
 refine loop_inv (fun j a h => ∃ q : Int, 0 ≤ q ∧ q ≤ cnt xs ∧ j = (cnt xs - q).toNat ∧ (∀ (p : Nat) z, (p : Int) < q → xs[p]? = some z → goodB z = true) ∧ a = [.s 7 cs, ui i, .s 3 ys, .lost, .lost, .lost, .lost, .s 1 nds, ui q, .lost, .lost, .lost, .lost, .lost, .lost, .lost, .lost, .lost, .lost, .lost, .lost, .lost, .lost, .lost, .lost, .lost, .lost, .lost, .lost, .lost, .lost, .lost, .lost, .lost, .lost, .lost, .lost, .lost, .lost, .lost, .lost, .lost, .lost, .lost, .lost, .lost, .lost, .lost, .lost, .lost, .lost, .lost, .lost, .lost, .lost] ∧ h = []) ?_ r (cnt xs).toNat _ _ (by omega) ⟨0, by omega, by omega, by omega, fun p z hp _ => absurd hp (by omega), rfl, rfl⟩
 rintro j a h K ⟨q, q0, q1, hj, hg, rfl, rfl⟩ hK
 rcases Decidable.em (q < cnt xs) with hlt | hlt
 ·obtain ⟨⟨s, l, d⟩, hz, hy⟩ := hxm q q0 hlt
  have k2 := kg q _ hz
  have hg' : goodB (s, l, d) = true → ∀ (p : Nat) z, (p : Int) < q + 1 → xs[p]? = some z → goodB z = true := fun hb p z hp hz' => by
   by_cases e : (p : Int) = q
   ·rw [show p = q.toNat by omega, hz] at hz'
    injection hz' with hz'
    rw [← hz']
    exact hb
   ·exact hg p z (by omega) hz'
  have hg2 : goodB (s, l, d) = false → xs.all goodB = false := fun hb => by
   rw [Bool.eq_false_iff, Ne, List.all_eq_true]
   intro hh
   rw [hh _ (List.mem_of_getElem? hz)] at hb
   cases hb
  generalize goodB (s, l, d) = g at k2 hg' hg2
  cases g
  ·rw [hg2 rfl, Bool.false_and] at hu
   clear hg' hg2 hg
   cbv
   (repeat ((first | with_reducible refine ln fun _ _ _ => ?_ | refine tt ?_ | refine ff ?_ | refine tt ?_ rfl | with_reducible refine wr fun _ _ => ?_ | refine rp fun _ _ _ => ?_ | with_reducible refine bq ?_ | refine cl ?_ | refine sd ?_); cbv))
   refine el ?_ (by omega) hy
   cbv
   (repeat ((first | with_reducible refine ln fun _ _ _ => ?_ | refine tt ?_ | refine ff ?_ | refine tt ?_ rfl | with_reducible refine wr fun _ _ => ?_ | refine rp fun _ _ _ => ?_ | with_reducible refine bq ?_ | refine cl ?_ | refine sd ?_); cbv))
   exact hu.symm
  ·clear hg2
   cbv
   (repeat ((first | with_reducible refine ln fun _ _ _ => ?_ | refine tt ?_ | refine ff ?_ | refine tt ?_ rfl | with_reducible refine wr fun _ _ => ?_ | refine rp fun _ _ _ => ?_ | with_reducible refine bq ?_ | refine cl ?_ | refine sd ?_); cbv))
   refine el ?_ (by omega) hy
   cbv
   (repeat ((first | with_reducible refine ln fun _ _ _ => ?_ | refine tt ?_ | refine ff ?_ | refine tt ?_ rfl | with_reducible refine wr fun _ _ => ?_ | refine rp fun _ _ _ => ?_ | with_reducible refine bq ?_ | refine cl ?_ | refine sd ?_); cbv))
   rename_i q' hq'
   refine lets [0, 1, 2, 7, 8] ?_
   exact hK (cnt xs - (q + 1)).toNat _ _ (by omega) ⟨q + 1, by omega, by omega, rfl, hg' rfl, by rw [hq']; rfl, rfl⟩
 have hall : xs.all goodB = true := List.all_eq_true.2 fun z hz => by
  obtain ⟨p, hp, rfl⟩ := List.mem_iff_getElem.1 hz
  exact hg p _ (by unfold cnt at hlt; omega) (List.getElem?_eq_getElem hp)
 rw [hall, Bool.true_and] at hu
 clear hg hall kg hxm
 cbv
 (repeat ((first | with_reducible refine ln fun _ _ _ => ?_ | refine tt ?_ | refine ff ?_ | refine tt ?_ rfl | with_reducible refine wr fun _ _ => ?_ | refine rp fun _ _ _ => ?_ | with_reducible refine bq ?_ | refine cl ?_ | refine sd ?_); cbv))
 refine lets [0, 1, 2, 7, 9] ?_
 cbv
 refine loop_inv (fun j a h => ∃ q : Int, 0 ≤ q ∧ q ≤ i + 1 ∧ j = (i + 1 - q).toNat ∧ (∀ (p : Nat) t, (p : Int) < q → c[p]? = some t → nd[p]? = some true → t.k = 2 → t.n < cnt xs) ∧ a = [.s 7 cs, ui i, .s 3 ys, .lost, .lost, .lost, .lost, .s 1 nds, .lost, ui q, .lost, .lost, .lost, .lost, .lost, .lost, .lost, .lost, .lost, .lost, .lost, .lost, .lost, .lost, .lost, .lost, .lost, .lost, .lost, .lost, .lost, .lost, .lost, .lost, .lost, .lost, .lost, .lost, .lost, .lost, .lost, .lost, .lost, .lost, .lost, .lost, .lost, .lost, .lost, .lost, .lost, .lost, .lost, .lost, .lost] ∧ h = []) ?_ r (i + 1).toNat _ _ (by omega) ⟨0, by omega, by omega, by omega, fun p z hp _ => absurd hp (by omega), rfl, rfl⟩
 rintro j2 a h K2 ⟨q, q0, q1, hj2, hg, rfl, rfl⟩ hK2
 clear hK
 rcases Decidable.em (q ≤ i) with hlt | hlt
 ·obtain ⟨⟨kd, ta, tb, m, s, l, d⟩, ht, hy⟩ := hcn q q0 (by omega)
  obtain ⟨b, hb, hz⟩ := hnx q q0 (by omega)
  have hg' : (b = true → kd = 2 → m < cnt xs) → ∀ (p : Nat) t, (p : Int) < q + 1 → c[p]? = some t → nd[p]? = some true → t.k = 2 → t.n < cnt xs := fun hh p t hp ht' hb' hk => by
   by_cases e : (p : Int) = q
   ·have : p = q.toNat := by omega
    subst this
    rw [ht] at ht'
    injection ht' with ht'
    subst ht'
    rw [hb] at hb'
    injection hb' with hb'
    exact hh hb' hk
   ·exact hg p t (by omega) ht' hb' hk
  have hg2 : b = true → kd = 2 → ¬ m < cnt xs → refsB c nd (cnt xs) = false := fun e1 e2 e3 => by
   rw [Bool.eq_false_iff]
   intro hh
   exact e3 (refs_iff.1 hh q.toNat _ ht (by rw [hb, e1]) e2)
  clear hg hcn hnx ht hb hle
  cbv
  (repeat ((first | with_reducible refine ln fun _ _ _ => ?_ | refine tt ?_ | refine ff ?_ | refine tt ?_ rfl | with_reducible refine wr fun _ _ => ?_ | refine rp fun _ _ _ => ?_ | with_reducible refine bq ?_ | refine cl ?_ | refine sd ?_); cbv))
  refine el ?_ (by omega) hz
  clear hz
  cases b
  ·clear hg2
   cbv
   (repeat ((first | with_reducible refine ln fun _ _ _ => ?_ | refine tt ?_ | refine ff ?_ | refine tt ?_ rfl | with_reducible refine wr fun _ _ => ?_ | refine rp fun _ _ _ => ?_ | with_reducible refine bq ?_ | refine cl ?_ | refine sd ?_); cbv))
   rename_i q' hq'
   refine lets [0, 1, 2, 7, 9] ?_
   exact hK2 (i + 1 - (q + 1)).toNat _ _ (by omega) ⟨q + 1, by omega, by omega, rfl, hg' (fun e => by cases e), by rw [hq']; rfl, rfl⟩
  rcases Decidable.em (kd = 2) with h3 | h3
  ·rcases Decidable.em (m < cnt xs) with h4 | h4
   ·clear hg2
    cbv
    (repeat ((first | with_reducible refine ln fun _ _ _ => ?_ | refine tt ?_ | refine ff ?_ | refine tt ?_ rfl | with_reducible refine wr fun _ _ => ?_ | refine rp fun _ _ _ => ?_ | with_reducible refine bq ?_ | refine cl ?_ | refine sd ?_); cbv))
    refine el ?_ (by omega) hy
    cbv
    (repeat ((first | with_reducible refine ln fun _ _ _ => ?_ | refine tt ?_ | refine ff ?_ | refine tt ?_ rfl | with_reducible refine wr fun _ _ => ?_ | refine rp fun _ _ _ => ?_ | with_reducible refine bq ?_ | refine cl ?_ | refine sd ?_); cbv))
    refine el ?_ (by omega) hy
    cbv
    (repeat ((first | with_reducible refine ln fun _ _ _ => ?_ | refine tt ?_ | refine ff ?_ | refine tt ?_ rfl | with_reducible refine wr fun _ _ => ?_ | refine rp fun _ _ _ => ?_ | with_reducible refine bq ?_ | refine cl ?_ | refine sd ?_); cbv))
    rename_i q' hq'
    refine lets [0, 1, 2, 7, 9] ?_
    exact hK2 (i + 1 - (q + 1)).toNat _ _ (by omega) ⟨q + 1, by omega, by omega, rfl, hg' (fun _ _ => h4), by rw [hq']; rfl, rfl⟩
   ·rw [hg2 rfl h3 h4] at hu
    clear hg2 hg' hK2
    cbv
    (repeat ((first | with_reducible refine ln fun _ _ _ => ?_ | refine tt ?_ | refine ff ?_ | refine tt ?_ rfl | with_reducible refine wr fun _ _ => ?_ | refine rp fun _ _ _ => ?_ | with_reducible refine bq ?_ | refine cl ?_ | refine sd ?_); cbv))
    refine el ?_ (by omega) hy
    cbv
    (repeat ((first | with_reducible refine ln fun _ _ _ => ?_ | refine tt ?_ | refine ff ?_ | refine tt ?_ rfl | with_reducible refine wr fun _ _ => ?_ | refine rp fun _ _ _ => ?_ | with_reducible refine bq ?_ | refine cl ?_ | refine sd ?_); cbv))
    refine el ?_ (by omega) hy
    cbv
    (repeat ((first | with_reducible refine ln fun _ _ _ => ?_ | refine tt ?_ | refine ff ?_ | refine tt ?_ rfl | with_reducible refine wr fun _ _ => ?_ | refine rp fun _ _ _ => ?_ | with_reducible refine bq ?_ | refine cl ?_ | refine sd ?_); cbv))
    exact hu.symm
  ·clear hg2
   cbv
   (repeat ((first | with_reducible refine ln fun _ _ _ => ?_ | refine tt ?_ | refine ff ?_ | refine tt ?_ rfl | with_reducible refine wr fun _ _ => ?_ | refine rp fun _ _ _ => ?_ | with_reducible refine bq ?_ | refine cl ?_ | refine sd ?_); cbv))
   refine el ?_ (by omega) hy
   cbv
   (repeat ((first | with_reducible refine ln fun _ _ _ => ?_ | refine tt ?_ | refine ff ?_ | refine tt ?_ rfl | with_reducible refine wr fun _ _ => ?_ | refine rp fun _ _ _ => ?_ | with_reducible refine bq ?_ | refine cl ?_ | refine sd ?_); cbv))
   rename_i q' hq'
   refine lets [0, 1, 2, 7, 9] ?_
   exact hK2 (i + 1 - (q + 1)).toNat _ _ (by omega) ⟨q + 1, by omega, by omega, rfl, hg' (fun _ e => absurd e h3), by rw [hq']; rfl, rfl⟩
 ·rw [refs_iff.2 fun p t ht hb hk => hg p t (by have := hle p hb; omega) ht hb hk] at hu
  clear hg hcn hnx hle
  cbv
  (repeat ((first | with_reducible refine ln fun _ _ _ => ?_ | refine tt ?_ | refine ff ?_ | refine tt ?_ rfl | with_reducible refine wr fun _ _ => ?_ | refine rp fun _ _ _ => ?_ | with_reducible refine bq ?_ | refine cl ?_ | refine sd ?_); cbv))
  exact hu.symm
theorem alike {α : Type} {a b : List α} {n : Int} (hn : cnt a = n) (hb : cnt b = n) (h : ∀ (x : Nat), (x : Int) < n → a[x]? = b[x]?) : a = b := by
 unfold cnt at *
 refine List.ext_getElem? fun x => ?_
 by_cases e : (x : Int) < n
 ·exact h x e
 ·rw [List.getElem?_eq_none (by omega), List.getElem?_eq_none (by omega)]
theorem apart {α : Type} {a b : List α} {i : Int} {x y : α} (h1 : a[i.toNat]? = some x) (h2 : b[i.toNat]? = some y) (h : x ≠ y) : ¬ a = b := fun e => by
 rw [e, h2] at h1
 injection h1 with h1
 exact h h1.symm
theorem upto {α : Type} {a b : List α} {i : Int} {x : α} (h0 : 0 ≤ i) (h1 : a[i.toNat]? = some x) (h2 : b[i.toNat]? = some x) (h : ∀ (x : Nat), (x : Int) < i → a[x]? = b[x]?) : ∀ (x : Nat), (x : Int) < i + 1 → a[x]? = b[x]? := fun x hx => by
 by_cases e : (x : Int) = i
 ·have : x = i.toNat := by omega
  rw [this, h1, h2]
 ·exact h x (by omega)
def keepIntsR (us : List U) (u : U) : Prop := ∃ a b : List Int, cnt a ≤ 1000000 ∧ us = [.s 1 (uis a), .s 1 (uis b)] ∧ u = ub (decide (a = b))
theorem keepInts_ok : SoundF Tryz.prog 18 keepIntsR := sound [] orc_nil Tryz.func18 (by kernel_rfl) (by kernel_rfl) fun us u hR => by
 obtain ⟨a, b, hn, rfl, hu⟩ := hR
 obtain ⟨r, hr⟩ : ∃ r, (cnt a).toNat < r := ⟨_, Nat.lt_succ_self _⟩
 refine ⟨r, fun C E hC => ?_⟩
 have hva := fun i (h0 : 0 ≤ i) (h1 : i < cnt a) => nth_map (c := a) (fun x => [ui x]) h0 h1
 have hvb := fun i (h0 : 0 ≤ i) (h1 : i < cnt b) => nth_map (c := b) (fun x => [ui x]) h0 h1
 have hca := cnt_map a fun x => [ui x]
 have hcb := cnt_map b fun x => [ui x]
 have ha0 := cnt0 a
 unfold uis
 generalize a.map (fun x => [ui x]) = xs at *
 generalize b.map (fun x => [ui x]) = ys at *
 cbv
 rcases Decidable.em (cnt a = cnt b) with h1 | h1
 case inr =>
  rw [decide_eq_false (fun e => h1 (by rw [e]))] at hu
  (repeat ((first | refine ln fun _ _ _ => ?_ | refine tt ?_ | refine ff ?_ | refine wr fun _ _ => ?_ | refine rp fun _ _ _ => ?_ | with_reducible refine bq ?_ | refine cl ?_ | refine sd ?_ | intro _ _); cbv))
  exact hu.symm
 (repeat ((first | refine ln fun _ _ _ => ?_ | refine tt ?_ | refine ff ?_ | refine wr fun _ _ => ?_ | refine rp fun _ _ _ => ?_ | with_reducible refine bq ?_ | refine cl ?_ | refine sd ?_ | intro _ _); cbv))
 refine lets [0, 1, 5] ?_
 cbv
 refine loop_inv (fun j a1 h => ∃ i : Int, 0 ≤ i ∧ i ≤ cnt a ∧ j = (cnt a - i).toNat ∧ (∀ (x : Nat), (x : Int) < i → a[x]? = b[x]?) ∧ a1 = [.s 1 xs, .s 1 ys, .lost, .lost, .lost, ui i, .lost, .lost, .lost, .lost, .lost, .lost, .lost, .lost, .lost, .lost, .lost, .lost, .lost, .lost, .lost, .lost, .lost, .lost, .lost, .lost] ∧ h = []) ?_ r (cnt a).toNat _ _ hr ⟨0, by omega, by omega, by omega, fun x hx => absurd hx (by omega), rfl, rfl⟩
 rintro j a1 h K ⟨i, i0, i1, hj, hI, rfl, rfl⟩ hK
 rcases Decidable.em (i < cnt a) with hlt | hlt
 ·obtain ⟨x, hx, hx2⟩ := hva i i0 hlt
  obtain ⟨y, hy, hy2⟩ := hvb i i0 (by omega)
  rcases Decidable.em (x = y) with e | e
  ·subst e
   have hI := upto i0 hx hy hI
   clear hu
   (
    cbv
    (repeat ((first | refine ln fun _ _ _ => ?_ | refine tt ?_ | refine ff ?_ | refine wr fun _ _ => ?_ | refine rp fun _ _ _ => ?_ | with_reducible refine bq ?_ | refine cl ?_ | refine sd ?_ | intro _ _); cbv))
    refine el ?_ (by omega) hx2
    cbv
    (repeat ((first | refine ln fun _ _ _ => ?_ | refine tt ?_ | refine ff ?_ | refine wr fun _ _ => ?_ | refine rp fun _ _ _ => ?_ | with_reducible refine bq ?_ | refine cl ?_ | refine sd ?_ | intro _ _); cbv))
    refine el ?_ (by omega) hy2
    cbv
    (repeat ((first | refine ln fun _ _ _ => ?_ | refine tt ?_ | refine ff ?_ | refine wr fun _ _ => ?_ | refine rp fun _ _ _ => ?_ | with_reducible refine bq ?_ | refine cl ?_ | refine sd ?_ | intro _ _); cbv))
    rename_i q' hq'
    refine lets [0, 1, 5] ?_
    exact hK (cnt a - (i + 1)).toNat _ _ (by omega) ⟨i + 1, by omega, by omega, rfl, hI, by rw [hq']; rfl, rfl⟩)
  ·rw [decide_eq_false (apart hx hy e)] at hu
   clear hI hK
   (
    cbv
    (repeat ((first | refine ln fun _ _ _ => ?_ | refine tt ?_ | refine ff ?_ | refine wr fun _ _ => ?_ | refine rp fun _ _ _ => ?_ | with_reducible refine bq ?_ | refine cl ?_ | refine sd ?_ | intro _ _); cbv))
    refine el ?_ (by omega) hx2
    cbv
    (repeat ((first | refine ln fun _ _ _ => ?_ | refine tt ?_ | refine ff ?_ | refine wr fun _ _ => ?_ | refine rp fun _ _ _ => ?_ | with_reducible refine bq ?_ | refine cl ?_ | refine sd ?_ | intro _ _); cbv))
    refine el ?_ (by omega) hy2
    cbv
    (repeat ((first | refine ln fun _ _ _ => ?_ | refine tt ?_ | refine ff ?_ | refine wr fun _ _ => ?_ | refine rp fun _ _ _ => ?_ | with_reducible refine bq ?_ | refine cl ?_ | refine sd ?_ | intro _ _); cbv))
    exact hu.symm)
 ·rw [decide_eq_true (alike rfl h1.symm fun x hx => hI x (by omega))] at hu
  clear hI hK
  cbv
  (repeat ((first | refine ln fun _ _ _ => ?_ | refine tt ?_ | refine ff ?_ | refine wr fun _ _ => ?_ | refine rp fun _ _ _ => ?_ | with_reducible refine bq ?_ | refine cl ?_ | refine sd ?_ | intro _ _); cbv))
  exact hu.symm
def keepBoolsR (us : List U) (u : U) : Prop := ∃ a b : List Bool, cnt a ≤ 1000000 ∧ us = [.s 1 (uB a), .s 1 (uB b)] ∧ u = ub (decide (a = b))
theorem keepBools_ok : SoundF Tryz.prog 19 keepBoolsR := sound [] orc_nil Tryz.func19 (by kernel_rfl) (by kernel_rfl) fun us u hR => by
 obtain ⟨a, b, hn, rfl, hu⟩ := hR
 obtain ⟨r, hr⟩ : ∃ r, (cnt a).toNat < r := ⟨_, Nat.lt_succ_self _⟩
 refine ⟨r, fun C E hC => ?_⟩
 have hva := fun i (h0 : 0 ≤ i) (h1 : i < cnt a) => nth_map (c := a) (fun x => [ub x]) h0 h1
 have hvb := fun i (h0 : 0 ≤ i) (h1 : i < cnt b) => nth_map (c := b) (fun x => [ub x]) h0 h1
 have hca := cnt_map a fun x => [ub x]
 have hcb := cnt_map b fun x => [ub x]
 have ha0 := cnt0 a
 unfold uB
 generalize a.map (fun x => [ub x]) = xs at *
 generalize b.map (fun x => [ub x]) = ys at *
 cbv
 rcases Decidable.em (cnt a = cnt b) with h1 | h1
 case inr =>
  rw [decide_eq_false (fun e => h1 (by rw [e]))] at hu
  (repeat ((first | refine ln fun _ _ _ => ?_ | refine tt ?_ | refine ff ?_ | refine wr fun _ _ => ?_ | refine rp fun _ _ _ => ?_ | with_reducible refine bq ?_ | refine cl ?_ | refine sd ?_ | intro _ _); cbv))
  exact hu.symm
 (repeat ((first | refine ln fun _ _ _ => ?_ | refine tt ?_ | refine ff ?_ | refine wr fun _ _ => ?_ | refine rp fun _ _ _ => ?_ | with_reducible refine bq ?_ | refine cl ?_ | refine sd ?_ | intro _ _); cbv))
 refine lets [0, 1, 5] ?_
 cbv
 refine loop_inv (fun j a1 h => ∃ i : Int, 0 ≤ i ∧ i ≤ cnt a ∧ j = (cnt a - i).toNat ∧ (∀ (x : Nat), (x : Int) < i → a[x]? = b[x]?) ∧ a1 = [.s 1 xs, .s 1 ys, .lost, .lost, .lost, ui i, .lost, .lost, .lost, .lost, .lost, .lost, .lost, .lost, .lost, .lost, .lost, .lost, .lost, .lost, .lost, .lost, .lost, .lost, .lost, .lost] ∧ h = []) ?_ r (cnt a).toNat _ _ hr ⟨0, by omega, by omega, by omega, fun x hx => absurd hx (by omega), rfl, rfl⟩
 rintro j a1 h K ⟨i, i0, i1, hj, hI, rfl, rfl⟩ hK
 rcases Decidable.em (i < cnt a) with hlt | hlt
 ·obtain ⟨x, hx, hx2⟩ := hva i i0 hlt
  obtain ⟨y, hy, hy2⟩ := hvb i i0 (by omega)
  rcases Decidable.em (x = y) with e | e
  ·subst e
   have hI := upto i0 hx hy hI
   clear hu
   cases x <;> (
    cbv
    (repeat ((first | refine ln fun _ _ _ => ?_ | refine tt ?_ | refine ff ?_ | refine wr fun _ _ => ?_ | refine rp fun _ _ _ => ?_ | with_reducible refine bq ?_ | refine cl ?_ | refine sd ?_ | intro _ _); cbv))
    refine el ?_ (by omega) hx2
    cbv
    (repeat ((first | refine ln fun _ _ _ => ?_ | refine tt ?_ | refine ff ?_ | refine wr fun _ _ => ?_ | refine rp fun _ _ _ => ?_ | with_reducible refine bq ?_ | refine cl ?_ | refine sd ?_ | intro _ _); cbv))
    refine el ?_ (by omega) hy2
    cbv
    (repeat ((first | refine ln fun _ _ _ => ?_ | refine tt ?_ | refine ff ?_ | refine wr fun _ _ => ?_ | refine rp fun _ _ _ => ?_ | with_reducible refine bq ?_ | refine cl ?_ | refine sd ?_ | intro _ _); cbv))
    rename_i q' hq'
    refine lets [0, 1, 5] ?_
    exact hK (cnt a - (i + 1)).toNat _ _ (by omega) ⟨i + 1, by omega, by omega, rfl, hI, by rw [hq']; rfl, rfl⟩)
  ·rw [decide_eq_false (apart hx hy e)] at hu
   clear hI hK
   cases x <;> cases y <;> first | exact absurd rfl e | (
    cbv
    (repeat ((first | refine ln fun _ _ _ => ?_ | refine tt ?_ | refine ff ?_ | refine wr fun _ _ => ?_ | refine rp fun _ _ _ => ?_ | with_reducible refine bq ?_ | refine cl ?_ | refine sd ?_ | intro _ _); cbv))
    refine el ?_ (by omega) hx2
    cbv
    (repeat ((first | refine ln fun _ _ _ => ?_ | refine tt ?_ | refine ff ?_ | refine wr fun _ _ => ?_ | refine rp fun _ _ _ => ?_ | with_reducible refine bq ?_ | refine cl ?_ | refine sd ?_ | intro _ _); cbv))
    refine el ?_ (by omega) hy2
    cbv
    (repeat ((first | refine ln fun _ _ _ => ?_ | refine tt ?_ | refine ff ?_ | refine wr fun _ _ => ?_ | refine rp fun _ _ _ => ?_ | with_reducible refine bq ?_ | refine cl ?_ | refine sd ?_ | intro _ _); cbv))
    exact hu.symm)
 ·rw [decide_eq_true (alike rfl h1.symm fun x hx => hI x (by omega))] at hu
  clear hI hK
  cbv
  (repeat ((first | refine ln fun _ _ _ => ?_ | refine tt ?_ | refine ff ?_ | refine wr fun _ _ => ?_ | refine rp fun _ _ _ => ?_ | with_reducible refine bq ?_ | refine cl ?_ | refine sd ?_ | intro _ _); cbv))
  exact hu.symm
theorem keepNR {a b : List Int} (h : cnt a ≤ 1000000) : steelyardkeep_Nat.R [.l a, .l b] (ub (decide (a = b))) := by obtain ⟨k, hk⟩ := (same_tells a b (by unfold cnt at h; omega)).rounds; exact ⟨k, _, _, _, rfl, hk, rfl⟩
def keepIR (us : List U) (u : U) : Prop := ∃ s1 l1 s2 l2, cnt l1 ≤ 1000000 ∧ us = [.agg [ub s1, .l l1], .agg [ub s2, .l l2]] ∧ u = ub (decide ((s1, l1) = (s2, l2)))
theorem keepI_ok : SoundF Tryz.prog 37 keepIR := sound [(38, steelyardkeep_Nat.R)] (orc_cons steelyardkeep_Nat.sound orc_nil) Tryz.func37 (by kernel_rfl) (by kernel_rfl) fun us u hR => ⟨0, fun C E hC => by
 obtain ⟨s1, l1, s2, l2, h, rfl, hu⟩ := hR
 have k := hC 38 steelyardkeep_Nat.R (by simp) _ _ (keepNR (b := l2) h)
 by_cases h1 : s1 = s2
 ·rw [show decide ((s1, l1) = (s2, l2)) = decide (l1 = l2) by rw [decide_eq_decide]; simp [h1]] at hu
  generalize decide (l1 = l2) = t at *
  cases s1 <;> cases s2 <;> first | exact absurd h1 (by decide) | (cbv; (repeat ((first | refine ln fun _ _ _ => ?_ | refine tt ?_ | refine ff ?_ | refine wr fun _ _ => ?_ | refine rp fun _ _ _ => ?_ | with_reducible refine bq ?_ | refine cl ?_ | refine sd ?_ | intro _ _); cbv)); exact hu.symm)
 ·rw [decide_eq_false (show ¬ (s1, l1) = (s2, l2) by simp [h1])] at hu
  cases s1 <;> cases s2 <;> first | exact absurd rfl h1 | (cbv; (repeat ((first | refine ln fun _ _ _ => ?_ | refine tt ?_ | refine ff ?_ | refine wr fun _ _ => ?_ | refine rp fun _ _ _ => ?_ | with_reducible refine bq ?_ | refine cl ?_ | refine sd ?_ | intro _ _); cbv)); exact hu.symm)⟩
def keepR (us : List U) (u : U) : Prop := ∃ a b : R3, cnt a.2.1 ≤ 1000000 ∧ cnt a.2.2 ≤ 1000000 ∧ us = [uR a, uR b] ∧ u = ub (decide (a = b))
theorem keep_ok : SoundF Tryz.prog 17 keepR := sound [(37, keepIR), (38, steelyardkeep_Nat.R)] (orc_cons keepI_ok (orc_cons steelyardkeep_Nat.sound orc_nil)) Tryz.func17 (by kernel_rfl) (by kernel_rfl) fun us u hR => ⟨0, fun C E hC => by
 obtain ⟨⟨s1, l1, b1⟩, ⟨s2, l2, b2⟩, h, h', rfl, hu⟩ := hR
 have k1 := hC 37 keepIR (by simp) _ _ ⟨s1, l1, s2, l2, h, rfl, rfl⟩
 have k2 := hC 38 steelyardkeep_Nat.R (by simp) _ _ (keepNR (b := b2) h')
 have e : decide ((s1, l1, b1) = (s2, l2, b2)) = (decide ((s1, l1) = (s2, l2)) && decide (b1 = b2)) := by rw [Bool.eq_iff_iff]; simp [and_assoc]
 rw [e] at hu
 clear e h h'
 generalize decide ((s1, l1) = (s2, l2)) = t1 at *
 generalize decide (b1 = b2) = t2 at *
 cases t1 <;> cases t2 <;> cbv <;> (repeat ((first | refine ln fun _ _ _ => ?_ | refine tt ?_ | refine ff ?_ | refine wr fun _ _ => ?_ | refine rp fun _ _ _ => ?_ | with_reducible refine bq ?_ | refine cl ?_ | refine sd ?_ | intro _ _); cbv)) <;> exact hu.symm⟩
def oneS (t : Tm) (a b : R3) (xs : List R3) : R4 :=
 if t.k = 1 then to4 t.q
 else if t.k = 2 then to4 (at3 xs t.n)
 else if t.k = 3 then addS a b
 else if t.k = 4 then subS a b
 else if t.k = 5 then mulS a b
 else if t.k = 6 then divS a b
 else if t.k = 7 then to4 (negS a)
 else powS a t.n
def oneR (us : List U) (u : U) : Prop := ∃ t i a b xs, termOk t i = true ∧ (t.k = 2 → t.n < cnt xs) ∧ LB a ∧ LB b ∧ us = [.agg (tU t), uR a, uR b, qsU xs] ∧ u = u76 (oneS t a b xs)
theorem one_ok : SoundF Tryz.prog 29 oneR := sound [(50, got2R addS), (51, got2R subS), (52, got2R mulS), (42, div7R), (53, neg7R), (54, of8R)] (orc_cons add7_ok (orc_cons sub7_ok (orc_cons mul7_ok (orc_cons div7_ok (orc_cons neg7_ok (orc_cons of8_ok orc_nil)))))) Tryz.func29 (by kernel_rfl) (by kernel_rfl) fun us u hR => ⟨0, fun C E hC => by
 obtain ⟨t, i, ⟨s1, l1, d1⟩, ⟨s2, l2, d2⟩, xs, ht, hr, ha, hb, rfl, hu⟩ := hR
 have hxm := fun i (h0 : 0 ≤ i) (h1 : i < cnt xs) => nth_map (c := xs) qU h0 h1
 have hc := term_cases ht
 obtain ⟨kd, ta, tb, m, s, l, d⟩ := t
 dsimp only at hc hr
 unfold oneS at hu
 dsimp only at hu
 unfold qsU
 generalize xs.map qU = ys at *
 clear ht
 rcases hc with h | ⟨h, h2⟩ | ⟨h, h2, h3⟩ | ⟨h, h2⟩ | ⟨h, h2, h3⟩
 ·subst h
  rw [if_pos rfl] at hu
  have hu : u = .agg [ub s, .l l, .l d, ui 0] := hu
  cbv; (repeat ((first | with_reducible refine ln fun _ _ _ => ?_ | refine tt ?_ | refine ff ?_ | with_reducible refine wr fun _ _ => ?_ | refine rp fun _ _ _ => ?_ | with_reducible refine bq ?_ | refine cl ?_ | refine sd ?_); cbv)); exact hu.symm
 ·subst h
  obtain ⟨⟨s3, l3, d3⟩, v1, w1⟩ := hxm m h2 (hr rfl)
  rw [if_neg (by omega), if_pos rfl, at3_of v1] at hu
  have hu : u = .agg [ub s3, .l l3, .l d3, ui 0] := hu
  cbv; (repeat ((first | with_reducible refine ln fun _ _ _ => ?_ | refine tt ?_ | refine ff ?_ | with_reducible refine wr fun _ _ => ?_ | refine rp fun _ _ _ => ?_ | with_reducible refine bq ?_ | refine cl ?_ | refine sd ?_); cbv))
  refine el ?_ (by omega) w1
  cbv; (repeat ((first | with_reducible refine ln fun _ _ _ => ?_ | refine tt ?_ | refine ff ?_ | with_reducible refine wr fun _ _ => ?_ | refine rp fun _ _ _ => ?_ | with_reducible refine bq ?_ | refine cl ?_ | refine sd ?_); cbv)); exact hu.symm
 ·rcases h with h | h | h | h
  ·subst h
   have k1 := hC 50 (got2R addS) (by simp) _ _ ⟨_, _, ha, hb, rfl, rfl⟩
   rw [if_neg (by omega), if_neg (by omega), if_pos rfl] at hu
   obtain ⟨s7, l7, d7, e7, hu', _⟩ := u76_parts (addS (s1, l1, d1) (s2, l2, d2))
   rw [hu'] at hu k1
   cbv; (repeat ((first | with_reducible refine ln fun _ _ _ => ?_ | refine tt ?_ | refine ff ?_ | with_reducible refine wr fun _ _ => ?_ | refine rp fun _ _ _ => ?_ | with_reducible refine bq ?_ | refine cl ?_ | refine sd ?_); cbv)); exact hu.symm
  ·subst h
   have k1 := hC 51 (got2R subS) (by simp) _ _ ⟨_, _, ha, hb, rfl, rfl⟩
   rw [if_neg (by omega), if_neg (by omega), if_neg (by omega), if_pos rfl] at hu
   obtain ⟨s7, l7, d7, e7, hu', _⟩ := u76_parts (subS (s1, l1, d1) (s2, l2, d2))
   rw [hu'] at hu k1
   cbv; (repeat ((first | with_reducible refine ln fun _ _ _ => ?_ | refine tt ?_ | refine ff ?_ | with_reducible refine wr fun _ _ => ?_ | refine rp fun _ _ _ => ?_ | with_reducible refine bq ?_ | refine cl ?_ | refine sd ?_); cbv)); exact hu.symm
  ·subst h
   have k1 := hC 52 (got2R mulS) (by simp) _ _ ⟨_, _, ha, hb, rfl, rfl⟩
   rw [if_neg (by omega), if_neg (by omega), if_neg (by omega), if_neg (by omega), if_pos rfl] at hu
   obtain ⟨s7, l7, d7, e7, hu', _⟩ := u76_parts (mulS (s1, l1, d1) (s2, l2, d2))
   rw [hu'] at hu k1
   cbv; (repeat ((first | with_reducible refine ln fun _ _ _ => ?_ | refine tt ?_ | refine ff ?_ | with_reducible refine wr fun _ _ => ?_ | refine rp fun _ _ _ => ?_ | with_reducible refine bq ?_ | refine cl ?_ | refine sd ?_); cbv)); exact hu.symm
  ·subst h
   have k1 := hC 42 div7R (by simp) _ _ ⟨_, _, ha, hb, rfl, rfl⟩
   rw [if_neg (by omega), if_neg (by omega), if_neg (by omega), if_neg (by omega), if_neg (by omega), if_pos rfl] at hu
   obtain ⟨s7, l7, d7, e7, hu', _⟩ := u76_parts (divS (s1, l1, d1) (s2, l2, d2))
   rw [hu'] at hu k1
   cbv; (repeat ((first | with_reducible refine ln fun _ _ _ => ?_ | refine tt ?_ | refine ff ?_ | with_reducible refine wr fun _ _ => ?_ | refine rp fun _ _ _ => ?_ | with_reducible refine bq ?_ | refine cl ?_ | refine sd ?_); cbv)); exact hu.symm
 ·subst h
  obtain ⟨s7, l7, d7, k1, ek⟩ := tR (hC 53 neg7R (by simp) _ _ ⟨_, ha, rfl, rfl⟩)
  rw [if_neg (by omega), if_neg (by omega), if_neg (by omega), if_neg (by omega), if_neg (by omega), if_neg (by omega), if_pos rfl, ← ek] at hu
  have hu : u = .agg [ub s7, .l l7, .l d7, ui 0] := hu
  cbv; (repeat ((first | with_reducible refine ln fun _ _ _ => ?_ | refine tt ?_ | refine ff ?_ | with_reducible refine wr fun _ _ => ?_ | refine rp fun _ _ _ => ?_ | with_reducible refine bq ?_ | refine cl ?_ | refine sd ?_); cbv)); exact hu.symm
 ·subst h
  have k1 := hC 54 of8R (by simp) _ _ ⟨(s1, l1, d1), m, ha, by omega, by omega, rfl, rfl⟩
  rw [if_neg (by omega), if_neg (by omega), if_neg (by omega), if_neg (by omega), if_neg (by omega), if_neg (by omega), if_neg (by omega)] at hu
  obtain ⟨s7, l7, d7, e7, hu', _⟩ := u76_parts (powS (s1, l1, d1) m)
  rw [hu'] at hu k1
  cbv; (repeat ((first | with_reducible refine ln fun _ _ _ => ?_ | refine tt ?_ | refine ff ?_ | with_reducible refine wr fun _ _ => ?_ | refine rp fun _ _ _ => ?_ | with_reducible refine bq ?_ | refine cl ?_ | refine sd ?_); cbv)); exact hu.symm⟩
theorem one_ev {t : Tm} {vs xs : List R3} {i : Int} (ht : termOk t i = true) (hx : xs.all goodB = true) (hn : t.k = 2 → t.n < cnt xs) : oneS t (at3 vs t.a) (at3 vs t.b) xs = evT vs xs t := by
 unfold oneS evT
 by_cases h1 : t.k = 1
 ·rw [if_pos h1, if_pos h1]
  rcases termOk_iff.1 ht with h | h
  ·rw [own_good h.2.2.2.2]
  ·exact absurd h1 h.1
 rw [if_neg h1, if_neg h1]
 by_cases h2 : t.k = 2
 ·rw [if_pos h2, if_pos h2]
  have h0 : 0 ≤ t.n := by
   rcases term_cases ht with h | h | h | h | h <;> omega
  have hl := hn h2
  unfold cnt at hl
  have : at3 xs t.n = xs[t.n.toNat]'(by omega) := by
   unfold at3
   rw [List.getElem?_eq_getElem (by omega)]
   rfl
  rw [this, own_good (List.all_eq_true.1 hx _ (List.getElem_mem _))]
 ·rw [if_neg h2, if_neg h2]
theorem set_other {vs : List R3} {q : Nat} {w : R3} {a : Int} (h : a.toNat ≠ q) : at3 (vs.set q w) a = at3 vs a := by
 unfold at3
 rw [List.getElem?_set_ne (fun e => h e.symm)]
theorem set_self3 {vs : List R3} {a : Nat} {w : R3} (h : a < vs.length) : at3 (vs.set a w) (a : Int) = w := by
 unfold at3
 rw [Int.toNat_natCast, List.getElem?_set_self h]
 rfl
theorem evT_congr {vs ws xs : List R3} {t : Tm} {i : Int} (ht : termOk t i = true) (h : ∀ k ∈ kids t, at3 vs k = at3 ws k) : evT vs xs t = evT ws xs t := by
 unfold evT
 rcases term_cases ht with h1 | ⟨h1, _⟩ | ⟨h1, _⟩ | ⟨h1, _⟩ | ⟨h1, _⟩
 ·rw [if_pos h1, if_pos h1]
 ·rw [if_neg (by omega), if_pos h1, if_neg (by omega), if_pos h1]
 ·rw [kids_two h1] at h
  rw [h t.a (by simp), h t.b (by simp)]
 ·rw [kids_one (.inl h1)] at h
  rw [h t.a (by simp)]
  simp [h1]
 ·rw [kids_one (.inr h1)] at h
  rw [h t.a (by simp)]
  simp [h1]
theorem lim_err {q : Rat} : ((lim q).2.2.2 = 0 ∧ goodB (to3 (lim q)) = true) ∨ (lim q).2.2.2 = 2 := by
 unfold lim
 split
 ·rename_i h
  exact .inl ⟨rfl, good_ratOf h⟩
 ·exact .inr rfl
theorem neg_good {a : R3} (h : goodB a = true) : goodB (negS a) = true := by
 obtain ⟨q, hq, rfl⟩ := good_iff.1 h
 unfold negS
 rw [if_pos h, qOf_ratOf]
 exact good_ratOf ((fits_neg q).trans hq)
theorem evT_kinds {vs xs : List R3} {t : Tm} {i : Int} (ht : termOk t i = true) (hk : ∀ k ∈ kids t, goodB (at3 vs k) = true) (hx : t.k = 2 → goodB (at3 xs t.n) = true) :
  ((evT vs xs t).2.2.2 = 0 ∧ goodB (to3 (evT vs xs t)) = true ∧ ∀ d : Int, byI t d → qOf (at3 vs d) ≠ 0) ∨ (evT vs xs t).2.2.2 = 2 ∨ ((evT vs xs t).2.2.2 = 3 ∧ ∃ d : Int, byI t d ∧ qOf (at3 vs d) = 0) := by
 have hby : t.k ≠ 6 → t.k ≠ 8 → ∀ d : Int, byI t d → qOf (at3 vs d) ≠ 0 := fun h6 h8 d hd => by
  rcases hd with hd | hd
  ·exact absurd hd.1 h6
  ·exact absurd hd.1 h8
 unfold evT
 rcases term_cases ht with h1 | ⟨h1, _⟩ | ⟨h1, _⟩ | ⟨h1, _⟩ | ⟨h1, _, h2, h3⟩
 ·rw [if_pos h1]
  rcases termOk_iff.1 ht with h | h
  ·exact .inl ⟨rfl, neg_good (neg_good h.2.2.2.2), hby (by omega) (by omega)⟩
  ·exact absurd h1 h.1
 ·rw [if_neg (by omega), if_pos h1]
  exact .inl ⟨rfl, neg_good (neg_good (hx h1)), hby (by omega) (by omega)⟩
 ·rw [kids_two h1] at hk
  have ga := hk t.a (by simp)
  have gb := hk t.b (by simp)
  have gab : (goodB (at3 vs t.a) && goodB (at3 vs t.b)) = true := by rw [ga, gb]; rfl
  rw [if_neg (by omega), if_neg (by omega)]
  rcases h1 with h1 | h1 | h1 | h1
  ·rw [if_pos h1]
   unfold addS
   rw [if_pos gab]
   rcases lim_err (q := qOf (at3 vs t.a) + qOf (at3 vs t.b)) with h | h
   ·exact .inl ⟨h.1, h.2, hby (by omega) (by omega)⟩
   ·exact .inr (.inl h)
  ·rw [if_neg (by omega), if_pos h1]
   unfold subS
   rw [if_pos gab]
   rcases lim_err (q := qOf (at3 vs t.a) - qOf (at3 vs t.b)) with h | h
   ·exact .inl ⟨h.1, h.2, hby (by omega) (by omega)⟩
   ·exact .inr (.inl h)
  ·rw [if_neg (by omega), if_neg (by omega), if_pos h1]
   unfold mulS
   rw [if_pos gab]
   rcases lim_err (q := qOf (at3 vs t.a) * qOf (at3 vs t.b)) with h | h
   ·exact .inl ⟨h.1, h.2, hby (by omega) (by omega)⟩
   ·exact .inr (.inl h)
  ·rw [if_neg (by omega), if_neg (by omega), if_neg (by omega), if_pos h1]
   unfold divS
   rw [if_pos gab]
   by_cases hz : qOf (at3 vs t.b) = 0
   ·rw [if_pos hz]
    exact .inr (.inr ⟨rfl, t.b, .inl ⟨h1, rfl⟩, hz⟩)
   ·rw [if_neg hz]
    rcases lim_err (q := qOf (at3 vs t.a) / qOf (at3 vs t.b)) with h | h
    ·refine .inl ⟨h.1, h.2, fun d hd => ?_⟩
     rcases hd with hd | hd
     ·rw [← hd.2]
      exact hz
     ·omega
    ·exact .inr (.inl h)
 ·rw [kids_one (.inl h1)] at hk
  rw [if_neg (by omega), if_neg (by omega), if_neg (by omega), if_neg (by omega), if_neg (by omega), if_neg (by omega), if_pos h1]
  exact .inl ⟨rfl, neg_good (hk t.a (by simp)), hby (by omega) (by omega)⟩
 ·rw [kids_one (.inr h1)] at hk
  have ga := hk t.a (by simp)
  rw [if_neg (by omega), if_neg (by omega), if_neg (by omega), if_neg (by omega), if_neg (by omega), if_neg (by omega), if_neg (by omega)]
  unfold powS
  rw [if_pos ga, if_pos ⟨h2, h3⟩]
  by_cases hz : t.n < 0 ∧ qOf (at3 vs t.a) = 0
  ·rw [if_pos hz]
   exact .inr (.inr ⟨rfl, t.a, .inr ⟨h1, hz.1, rfl⟩, hz.2⟩)
  ·rw [if_neg hz]
   rcases lim_err (q := qOf (at3 vs t.a) ^ t.n) with h | h
   ·refine .inl ⟨h.1, h.2, fun d hd => ?_⟩
    rcases hd with hd | hd
    ·omega
    ·rw [← hd.2.2]
     exact fun e => hz ⟨hd.2.1, e⟩
   ·exact .inr (.inl h)
structure Set1 (c : List Tm) (xs : List R3) (nd : List Bool) : Prop where
 ok : ∀ (j : Nat) t, c[j]? = some t → termOk t j = true
 kid : ∀ (j : Nat) t, nd[j]? = some true → c[j]? = some t → ∀ k ∈ kids t, nd[k.toNat]? = some true
 x : ∀ (j : Nat) t, nd[j]? = some true → c[j]? = some t → t.k = 2 → goodB (at3 xs t.n) = true
theorem kid_lt {c : List Tm} {xs : List R3} {nd : List Bool} (h : Set1 c xs nd) {j : Nat} {t : Tm} (ht : c[j]? = some t) {k : Int} (hk : k ∈ kids t) : 0 ≤ k ∧ k < (j : Int) := kids_in (h.ok j t ht) k hk
def Fix (c : List Tm) (xs : List R3) (nd : List Bool) (q : Nat) (vs : List R3) : Prop := ∀ (j : Nat) t, j < q → nd[j]? = some true → c[j]? = some t → evT vs xs t = to4 (at3 vs j) ∧ goodB (at3 vs j) = true
theorem to4_to3 {r : R4} (h : r.2.2.2 = 0) : to4 (to3 r) = r := by
 obtain ⟨s, l, d, e⟩ := r
 have h : e = 0 := h
 subst h
 rfl
theorem ev_step {c : List Tm} {xs : List R3} {nd : List Bool} {q : Nat} {vs : List R3} (h : evN c xs nd (q + 1) = (vs, 0)) : ∃ ws, evN c xs nd q = (ws, 0) ∧ ((nd[q]? = some true ∧ ∃ t, c[q]? = some t ∧ (evT ws xs t).2.2.2 = 0 ∧ vs = ws.set q (to3 (evT ws xs t))) ∨ (nd[q]? ≠ some true ∧ vs = ws) ∨ (c[q]? = none ∧ vs = ws)) := by
 obtain ⟨ws, e⟩ : ∃ ws e, evN c xs nd q = (ws, e) := ⟨_, _, rfl⟩
 obtain ⟨e, he⟩ := e
 rw [evN, he] at h
 by_cases h0 : e = 0
 ·subst h0
  refine ⟨ws, he, ?_⟩
  rw [if_pos rfl, evStep] at h
  by_cases hb : nd[q]? = some true
  ·rw [if_pos hb] at h
   cases ht : c[q]? with
   | none =>
    rw [ht] at h
    injection h with h
    exact .inr (.inr ⟨rfl, h.symm⟩)
   | some t =>
    rw [ht] at h
    dsimp only at h
    split at h
    ·rename_i h0
     injection h with h
     exact .inl ⟨hb, t, rfl, h0, h.symm⟩
    ·rename_i h0
     injection h with _ h
     exact absurd h h0
  ·rw [if_neg hb] at h
   injection h with h
   exact .inr (.inl ⟨hb, h.symm⟩)
 ·rw [if_neg h0] at h
  injection h with _ h
  exact absurd h h0
theorem fix_of {c : List Tm} {xs : List R3} {nd : List Bool} (hs : Set1 c xs nd) : ∀ (q : Nat) (vs : List R3), evN c xs nd q = (vs, 0) → Fix c xs nd q vs
 | 0, _, _ => fun j t h => absurd h (by omega)
 | q + 1, vs, h => by
  obtain ⟨ws, hw, h⟩ := ev_step h
  have ih := fix_of hs q ws hw
  have old : ∀ w, ∀ (j : Nat) t, j < q → nd[j]? = some true → c[j]? = some t → evT (ws.set q w) xs t = to4 (at3 (ws.set q w) j) ∧ goodB (at3 (ws.set q w) j) = true := fun w j t hj hb ht => by
   rw [set_other (by omega), evT_congr (ws := ws) (hs.ok j t ht) fun k hk => set_other (by have := kid_lt hs ht hk; omega)]
   exact ih j t hj hb ht
  rcases h with ⟨hb, t, ht, h0, rfl⟩ | ⟨hb, rfl⟩ | ⟨hn, rfl⟩
  ·intro j t' hj hb' ht'
   by_cases e : j = q
   ·subst e
    rw [ht] at ht'
    injection ht' with ht'
    subst ht'
    have hl : j < ws.length := by
     have := evN_len c xs nd j
     rw [hw] at this
     have this : ws.length = c.length := this
     have := (List.getElem?_eq_some_iff.1 ht).1
     omega
    have hkd : ∀ k ∈ kids t, goodB (at3 ws k) = true := fun k hk => by
     have h1 := kid_lt hs ht hk
     have h2 := hs.kid j t hb ht k hk
     have h3 := (List.getElem?_eq_some_iff.1 ht).1
     obtain ⟨tk, h4⟩ : ∃ tk, c[k.toNat]? = some tk := ⟨_, List.getElem?_eq_getElem (by omega)⟩
     have := (ih k.toNat tk (by omega) h2 h4).2
     rwa [show ((k.toNat : Nat) : Int) = k by omega] at this
    rw [set_self3 hl, evT_congr (ws := ws) (hs.ok j t ht) fun k hk => set_other (by have := kid_lt hs ht hk; omega), to4_to3 h0]
    refine ⟨rfl, ?_⟩
    rcases evT_kinds (hs.ok j t ht) hkd (hs.x j t hb ht) with h | h | h
    ·exact h.2.1
    ·omega
    ·omega
   ·exact old _ j t' (by omega) hb' ht'
  ·intro j t hj hb' ht
   by_cases e : j = q
   ·subst e
    exact absurd hb' hb
   ·exact ih j t (by omega) hb' ht
  ·intro j t hj hb' ht
   by_cases e : j = q
   ·subst e
    rw [hn] at ht
    cases ht
   ·exact ih j t (by omega) hb' ht
theorem ev_pre {c : List Tm} {xs : List R3} {nd : List Bool} {p : Nat} : ∀ (q : Nat) (vs : List R3), p ≤ q → evN c xs nd q = (vs, 0) → ∃ ws, evN c xs nd p = (ws, 0) ∧ ∀ j, j < p → at3 vs (j : Nat) = at3 ws (j : Nat)
 | 0, vs, hp, h => by
  rw [show p = 0 by omega]
  exact ⟨vs, h, fun j hj => absurd hj (by omega)⟩
 | q + 1, vs, hp, h => by
  by_cases e : p = q + 1
  ·subst e
   exact ⟨vs, h, fun _ _ => rfl⟩
  ·obtain ⟨ws, hw, hc⟩ := ev_step h
   obtain ⟨us, hu, he⟩ := ev_pre (p := p) q ws (by omega) hw
   refine ⟨us, hu, fun j hj => ?_⟩
   rw [← he j hj]
   rcases hc with ⟨_, t, _, _, rfl⟩ | ⟨_, rfl⟩ | ⟨_, rfl⟩
   ·exact set_other (by omega)
   ·rfl
   ·rfl
theorem ev_sub {c : List Tm} {xs : List R3} {nd n2 : List Bool} (hs : Set1 c xs nd) (hsub : ∀ j : Nat, nd[j]? = some true → n2[j]? = some true) : ∀ (q : Nat) (vs : List R3), evN c xs n2 q = (vs, 0) → ∃ ws, evN c xs nd q = (ws, 0) ∧ ∀ j : Nat, j < q → nd[j]? = some true → at3 ws j = at3 vs j
 | 0, vs, h => ⟨List.replicate c.length none3, rfl, fun j hj => absurd hj (by omega)⟩
 | q + 1, vs, h => by
  obtain ⟨us, hu, hc⟩ := ev_step h
  obtain ⟨ws, hw, he⟩ := ev_sub hs hsub q us hu
  have lw : ws.length = c.length := by
   have := evN_len c xs nd q
   rw [hw] at this
   exact this
  have lu : us.length = c.length := by
   have := evN_len c xs n2 q
   rw [hu] at this
   exact this
  by_cases hb : nd[q]? = some true
  ·rcases hc with ⟨_, t, ht, h0, rfl⟩ | ⟨h2, _⟩ | ⟨hn, rfl⟩
   ·have hl := (List.getElem?_eq_some_iff.1 ht).1
    have hev : evT ws xs t = evT us xs t := evT_congr (hs.ok q t ht) fun k hk => by
     have h1 := kid_lt hs ht hk
     have := he k.toNat (by omega) (hs.kid q t hb ht k hk)
     rwa [show ((k.toNat : Nat) : Int) = k by omega] at this
    refine ⟨ws.set q (to3 (evT ws xs t)), ?_, fun j hj hbj => ?_⟩
    ·rw [evN, hw, if_pos rfl, evStep, if_pos hb, ht]
     dsimp only
     rw [if_pos (by rw [hev]; exact h0)]
    ·by_cases e : j = q
     ·subst e
      rw [set_self3 (by omega), set_self3 (by omega), hev]
     ·rw [set_other (by omega), set_other (by omega)]
      exact he j (by omega) hbj
   ·exact absurd (hsub q hb) h2
   ·refine ⟨ws, ?_, fun j hj hbj => ?_⟩
    ·rw [evN, hw, if_pos rfl, evStep, if_pos hb, hn]
    ·by_cases e : j = q
     ·subst e
      unfold at3
      rw [List.getElem?_eq_none_iff] at hn
      rw [Int.toNat_natCast, List.getElem?_eq_none (by omega), List.getElem?_eq_none (by omega)]
     ·exact he j (by omega) hbj
  ·refine ⟨ws, ?_, fun j hj hbj => ?_⟩
   ·rw [evN, hw, if_pos rfl, evStep, if_neg hb]
   ·have hj2 : j ≠ q := fun e => hb (e ▸ hbj)
    rw [he j (by omega) hbj]
    rcases hc with ⟨_, t, _, _, rfl⟩ | ⟨_, rfl⟩ | ⟨_, rfl⟩
    ·exact (set_other (by omega)).symm
    ·rfl
    ·rfl
theorem ev_first {c : List Tm} {xs : List R3} {nd : List Bool} : ∀ (q : Nat), (evN c xs nd q).2 ≠ 0 → ∃ (j : Nat) (t : Tm) (vs : List R3), j < q ∧ evN c xs nd j = (vs, 0) ∧ nd[j]? = some true ∧ c[j]? = some t ∧ (evT vs xs t).2.2.2 = (evN c xs nd q).2
 | 0, h => absurd rfl h
 | q + 1, h => by
  by_cases h0 : (evN c xs nd q).2 = 0
  ·obtain ⟨vs, hv⟩ : ∃ vs, evN c xs nd q = (vs, 0) := ⟨(evN c xs nd q).1, by rw [← h0]⟩
   rw [evN, hv, if_pos rfl, evStep] at h ⊢
   by_cases hb : nd[q]? = some true
   ·rw [if_pos hb] at h ⊢
    cases ht : c[q]? with
    | none =>
     rw [ht] at h
     exact absurd rfl h
    | some t =>
     rw [ht] at h
     dsimp only at h ⊢
     split at h
     ·exact absurd rfl h
     ·rename_i h1
      rw [if_neg h1]
      exact ⟨q, t, vs, by omega, hv, hb, ht, rfl⟩
   ·rw [if_neg hb] at h
    exact absurd rfl h
  ·obtain ⟨j, t, vs, h1, h2⟩ := ev_first q h0
   refine ⟨j, t, vs, by omega, ?_⟩
   rw [evN, if_neg h0]
   exact h2
theorem down_in {c : List Tm} {nd : List Bool} (hk : ∀ (j : Nat), nd[j]? = some true → ∀ k ∈ kidsAt c j, nd[k.toNat]? = some true) : ∀ (m : Nat) (s : List Bool), (∀ j : Nat, s[j]? = some true → nd[j]? = some true) → ∀ j : Nat, (down c m s)[j]? = some true → nd[j]? = some true
 | 0, s, h, j, hj => h j hj
 | m + 1, s, h, j, hj => by
  unfold down at hj
  refine down_in hk m _ ?_ j hj
  intro j hj
  split at hj
  ·rename_i hm
   rcases mark_true.1 hj with h1 | ⟨_, k, hk1, rfl⟩
   ·exact h j h1
   ·exact hk m (h m hm) k hk1
  ·exact h j hj
theorem needs_in {c : List Tm} (hc : Ahead c) {i k : Nat} (hk : (needs c i)[k]? = some true) : ∀ j : Nat, (needs c k)[j]? = some true → (needs c i)[j]? = some true := by
 intro j hj
 unfold needs at hj
 refine down_in (fun j h k' hk' => ?_) _ _ (fun j h => ?_) j hj
 ·unfold kidsAt at hk'
  cases e : c[j]? with
  | none => rw [e] at hk'; cases hk'
  | some t => rw [e] at hk'; exact needs_kid hc e hk' h
 ·rcases set_true.1 h with h | h
  ·rw [List.getElem?_replicate] at h
   split at h <;> cases h
  ·rw [← h.2]
   exact hk
theorem set1_of {c : List Tm} {i : Int} {xs : List R3} (h : madeB c i xs = true) : Set1 c xs (needs c i.toNat) := by
 unfold madeB mayC at h
 simp only [Bool.and_eq_true, decide_eq_true_eq] at h
 obtain ⟨⟨⟨⟨h0, h1⟩, hg⟩, hx⟩, hr⟩ := h
 have ha := ahead_of hg
 refine ⟨fun j t ht => goodC_iff.1 hg j t ht, fun j t hb ht k hk => needs_kid ha ht hk hb, fun j t hb ht hk => ?_⟩
 have hl := refs_iff.1 hr j t ht hb hk
 have h5 : 0 ≤ t.n := by
  rcases term_cases (goodC_iff.1 hg j t ht) with h | ⟨_, h⟩ | ⟨h, _⟩ | ⟨h, _⟩ | ⟨h, _⟩ <;> first | exact h | omega
 unfold cnt at hl
 have : at3 xs t.n = xs[t.n.toNat]'(by omega) := by
  unfold at3
  rw [List.getElem?_eq_getElem (by omega)]
  rfl
 rw [this]
 exact List.all_eq_true.1 hx _ (List.getElem_mem _)
theorem made_sub {c : List Tm} {i k : Int} {xs : List R3} (h : madeB c i xs = true) (k0 : 0 ≤ k) (hk : (needs c i.toNat)[k.toNat]? = some true) : madeB c k xs = true := by
 have h' := h
 unfold madeB mayC at h'
 simp only [Bool.and_eq_true, decide_eq_true_eq] at h'
 obtain ⟨⟨⟨⟨h0, h1⟩, hg⟩, hx⟩, hr⟩ := h'
 have hl := (List.getElem?_eq_some_iff.1 hk).1
 have := cnt_eq (needs_len c i.toNat)
 unfold madeB mayC
 simp only [Bool.and_eq_true, decide_eq_true_eq]
 exact ⟨⟨⟨⟨k0, by unfold cnt; omega⟩, hg⟩, hx⟩, refs_iff.2 fun j t ht hb => refs_iff.1 hr j t ht (needs_in (ahead_of hg) hk j hb)⟩
theorem of_sub {c : List Tm} {i k : Int} {xs vs : List R3} {q : Nat} (h : madeB c i xs = true) (k0 : 0 ≤ k) (hk : (needs c i.toNat)[k.toNat]? = some true) (hkq : k < q) (hv : evN c xs (needs c i.toNat) q = (vs, 0)) : ofS c k xs = to4 (at3 vs k) := by
 have hm := made_sub h k0 hk
 have hs := set1_of hm
 have hg : goodC c = true := by
  unfold madeB mayC at h
  simp only [Bool.and_eq_true, decide_eq_true_eq] at h
  exact h.1.1.2
 obtain ⟨ws, hw, he⟩ := ev_pre (p := k.toNat + 1) q vs (by omega) hv
 obtain ⟨us, hu, he2⟩ := ev_sub hs (fun j => needs_in (ahead_of hg) hk j) (k.toNat + 1) ws hw
 have hr : (needs c k.toNat)[k.toNat]? = some true := by
  have hl := (List.getElem?_eq_some_iff.1 hk).1
  have := cnt_eq (needs_len c i.toNat)
  exact needs_root k0 (by unfold cnt; omega)
 have e1 := he k.toNat (by omega)
 have e2 := he2 k.toNat (by omega) hr
 rw [show ((k.toNat : Nat) : Int) = k by omega] at e1 e2
 unfold ofS
 rw [if_pos hm, hu, if_pos rfl, e2, e1]
theorem mem_picks {s : List Bool} {d : Int} : ∀ n : Nat, d ∈ picks s n ↔ 0 ≤ d ∧ d < n ∧ s[d.toNat]? = some true
 | 0 => ⟨fun h => (by cases h), fun ⟨h1, h2, _⟩ => absurd h2 (by omega)⟩
 | n + 1 => by
  have ih := mem_picks (s := s) (d := d) n
  rw [picks]
  by_cases e : s[n]? = some true
  ·rw [if_pos e, List.mem_append, List.mem_singleton, ih]
   constructor
   ·rintro (h | h)
    ·exact ⟨h.1, by omega, h.2.2⟩
    ·subst h
     exact ⟨by omega, by omega, by simpa using e⟩
   ·rintro ⟨h1, h2, h3⟩
    by_cases hd : d = n
    ·exact .inr hd
    ·exact .inl ⟨h1, by omega, h3⟩
  ·rw [if_neg e, ih]
   constructor
   ·rintro ⟨h1, h2, h3⟩
    exact ⟨h1, by omega, h3⟩
   ·rintro ⟨h1, h2, h3⟩
    refine ⟨h1, ?_, h3⟩
    rcases Int.lt_or_le d n with h | h
    ·exact h
    ·rw [show d.toNat = n by omega] at h3
     exact absurd h3 e
theorem sign_zero {a : R3} (h : goodB a = true) : signS a = 0 ↔ qOf a = 0 := by
 obtain ⟨p, hp, rfl⟩ := good_iff.1 h
 rw [signS_fits hp, qOf_ratOf]
 rcases cmpQ_cases p 0 with ⟨h1, h2⟩ | ⟨h1, h2⟩ | ⟨h1, h2⟩
 ·rw [h2]
  exact ⟨fun h => absurd h (by decide), fun h => by subst h; exact absurd h1 (by decide)⟩
 ·rw [h2]
  exact ⟨fun _ => h1, fun _ => rfl⟩
 ·rw [h2]
  exact ⟨fun h => absurd h (by decide), fun h => by subst h; exact absurd h1 (by decide)⟩
def nought (c : List Tm) (xs : List R3) (d : Int) : Bool := decide ((ofS c d xs).2.2.2 = 0) && decide (signS (to3 (ofS c d xs)) = 0)
structure Whole0 (c : List Tm) (i : Int) (xs : List R3) : Prop where
 good : goodB (to3 (ofS c i xs)) = true
 no : (divS' c i xs).1.any (nought c xs) = false
 one : ∀ t, c[i.toNat]? = some t → t.k ≠ 1 → t.k ≠ 2 → (ofS c t.a xs).2.2.2 = 0 ∧ (twoB t.k = true → (ofS c t.b xs).2.2.2 = 0) ∧ oneS t (to3 (ofS c t.a xs)) (to3 (if twoB t.k = true then ofS c t.b xs else ofS c t.a xs)) xs = ofS c i xs
theorem zero_law {c : List Tm} {i : Int} {xs : List R3} (h : madeB c i xs = true) : (ofS c i xs).2.2.2 = 2 ∨ ((ofS c i xs).2.2.2 = 3 ∧ (divS' c i xs).1.any (nought c xs) = true) ∨ ((ofS c i xs).2.2.2 = 0 ∧ Whole0 c i xs) := by
 have hs := set1_of h
 have h' := h
 unfold madeB mayC at h'
 simp only [Bool.and_eq_true, decide_eq_true_eq] at h'
 obtain ⟨⟨⟨⟨h0, h1⟩, hg⟩, hx⟩, hr⟩ := h'
 have ha := ahead_of hg
 have hi : i.toNat < c.length := by unfold cnt at h1; omega
 have hdv : (divS' c i xs).1 = picks (divM c (needs c i.toNat) c.length) c.length := by unfold divS'; rw [if_pos h]
 have hroot := needs_root h0 h1
 have good_at : ∀ (q : Nat) (vs : List R3), evN c xs (needs c i.toNat) q = (vs, 0) → ∀ k : Int, 0 ≤ k → k < q → (needs c i.toNat)[k.toNat]? = some true → goodB (at3 vs k) = true := fun q vs hv k k0 kq hk => by
  have hl := (List.getElem?_eq_some_iff.1 hk).1
  have := cnt_eq (needs_len c i.toNat)
  obtain ⟨t, ht⟩ : ∃ t, c[k.toNat]? = some t := ⟨_, List.getElem?_eq_getElem (by omega)⟩
  have := (fix_of hs q vs hv k.toNat t (by omega) hk ht).2
  rwa [show ((k.toNat : Nat) : Int) = k by omega] at this
 by_cases he : (evN c xs (needs c i.toNat) (i.toNat + 1)).2 = 0
 ·obtain ⟨vs, hv⟩ : ∃ vs, evN c xs (needs c i.toNat) (i.toNat + 1) = (vs, 0) := ⟨(evN c xs (needs c i.toNat) (i.toNat + 1)).1, by rw [← he]⟩
  have hof := of_sub h h0 hroot (by omega) hv
  have hsub := fun (k : Int) (k0 : 0 ≤ k) (k1 : k ≤ i) (hk : (needs c i.toNat)[k.toNat]? = some true) => of_sub h k0 hk (by omega) hv
  have hgd := good_at _ vs hv
  have hfx := fix_of hs _ vs hv
  refine .inr (.inr ⟨by rw [hof]; rfl, by rw [hof]; exact hgd i h0 (by omega) hroot, ?_, fun t ht t1 t2 => ?_⟩)
  ·rw [Bool.eq_false_iff]
   intro hany
   obtain ⟨d, hd, hn⟩ := List.any_eq_true.1 hany
   rw [hdv, mem_picks] at hd
   obtain ⟨d0, dl, hb⟩ := hd
   obtain ⟨j, t, j1, j2, j3, j4⟩ := (divM_true ha (by omega) _).1 hb
   rw [show ((d.toNat : Nat) : Int) = d by omega] at j4
   have jl := needs_le ha j2
   have hkd := byI_kid j4
   have hkl := ha j t j3 d hkd
   have hkn := needs_kid ha j3 hkd j2
   have e1 := (hfx j t (by omega) j2 j3).1
   rcases evT_kinds (hs.ok j t j3) (vs := vs) (fun k hk => hgd k (ha j t j3 k hk).1 (by have := ha j t j3 k hk; omega) (needs_kid ha j3 hk j2)) (hs.x j t j2 j3) with h3 | h3 | h3
   ·have h4 := h3.2.2 d j4
    unfold nought at hn
    simp only [Bool.and_eq_true, decide_eq_true_eq] at hn
    rw [hsub d d0 (by omega) hkn] at hn
    exact h4 ((sign_zero (hgd d d0 (by omega) hkn)).1 hn.2)
   ·rw [e1] at h3
    exact absurd h3 (by show ¬ (0 : Int) = 2; omega)
   ·rw [e1] at h3
    exact absurd h3.1 (by show ¬ (0 : Int) = 3; omega)
  ·have htk := hs.ok i.toNat t ht
   rw [show ((i.toNat : Nat) : Int) = i by omega] at htk
   have e1 := (hfx i.toNat t (by omega) hroot ht).1
   rw [show ((i.toNat : Nat) : Int) = i by omega] at e1
   have hn2 : t.k = 2 → t.n < cnt xs := fun e => absurd e t2
   rcases term_cases htk with h3 | ⟨h3, _⟩ | ⟨h3, h4, h5⟩ | ⟨h3, h4⟩ | ⟨h3, h4, _⟩
   ·exact absurd h3 t1
   ·exact absurd h3 t2
   ·have htw : twoB t.k = true := by unfold twoB; exact decide_eq_true h3
    have ka := hsub t.a h4.1 (by omega) (needs_kid ha ht (by rw [kids_two h3]; simp) hroot)
    have kb := hsub t.b h5.1 (by omega) (needs_kid ha ht (by rw [kids_two h3]; simp) hroot)
    rw [ka, kb, if_pos htw]
    refine ⟨rfl, fun _ => rfl, ?_⟩
    show oneS t (at3 vs t.a) (at3 vs t.b) xs = _
    rw [one_ev htk hx hn2, e1, hof]
   ·have htw : twoB t.k = false := by unfold twoB; exact decide_eq_false (by omega)
    have ka := hsub t.a h4.1 (by omega) (needs_kid ha ht (by rw [kids_one (.inl h3)]; simp) hroot)
    rw [ka, htw, if_neg (by simp)]
    refine ⟨rfl, fun e => (by cases e), ?_⟩
    rw [hof, ← e1, ← one_ev htk hx hn2]
    unfold oneS
    simp [h3]
    rfl
   ·have htw : twoB t.k = false := by unfold twoB; exact decide_eq_false (by omega)
    have ka := hsub t.a h4.1 (by omega) (needs_kid ha ht (by rw [kids_one (.inr h3)]; simp) hroot)
    rw [ka, htw, if_neg (by simp)]
    refine ⟨rfl, fun e => (by cases e), ?_⟩
    rw [hof, ← e1, ← one_ev htk hx hn2]
    unfold oneS
    simp [h3]
    rfl
 ·obtain ⟨j, t, vs, j1, hv, j2, j3, j4⟩ := ev_first _ he
  have hof : (ofS c i xs).2.2.2 = (evN c xs (needs c i.toNat) (i.toNat + 1)).2 := by
   unfold ofS
   rw [if_pos h, if_neg he]
   rfl
  rw [hof, ← j4]
  have hgd := good_at _ vs hv
  rcases evT_kinds (hs.ok j t j3) (vs := vs) (fun k hk => hgd k (ha j t j3 k hk).1 (ha j t j3 k hk).2 (needs_kid ha j3 hk j2)) (hs.x j t j2 j3) with h3 | h3 | ⟨h3, d, d1, d2⟩
  ·rw [j4] at h3
   exact absurd h3.1 he
  ·exact .inl h3
  ·refine .inr (.inl ⟨h3, List.any_eq_true.2 ⟨d, ?_, ?_⟩⟩)
   ·have hkl := ha j t j3 d (byI_kid d1)
    rw [hdv, mem_picks]
    have jl := (List.getElem?_eq_some_iff.1 j3).1
    refine ⟨hkl.1, by omega, (divM_true ha (by omega) _).2 ⟨j, t, jl, j2, j3, ?_⟩⟩
    rwa [show ((d.toNat : Nat) : Int) = d by omega]
   ·have hkl := ha j t j3 d (byI_kid d1)
    have hkn := needs_kid ha j3 (byI_kid d1) j2
    unfold nought
    rw [of_sub h hkl.1 hkn hkl.2 hv]
    simp only [Bool.and_eq_true, decide_eq_true_eq]
    exact ⟨rfl, (sign_zero (hgd d hkl.1 hkl.2 hkn)).2 d2⟩
def quotC : List Tm := [⟨2, 0, 0, 0, none3⟩, ⟨2, 0, 0, 1, none3⟩, ⟨6, 0, 1, 0, none3⟩, ⟨1, 0, 0, 0, ratOf 1⟩, ⟨4, 2, 3, 0, none3⟩]
def quotR (us : List U) (u : U) : Prop := us = [] ∧ u = cU quotC
theorem by_q {C : Orc} (h : Told C 24 byR) (a b : Int) (q : Rat) (h0 : -9223372036854775808 ≤ a ∧ a ≤ 9223372036854775807 ∧ 0 < b ∧ b ≤ 9223372036854775807) (hq : (a : Rat) / (b : Rat) = q) (hf : fits q = true) : ∃ s l d, C 24 [ui a, ui b] (.agg [ub s, .l l, .l d]) ∧ (s, l, d) = ratOf q := by
 subst hq
 exact tR (h _ _ ⟨a, b, h0.1, h0.2.1, h0.2.2.1, h0.2.2.2, hf, rfl, rfl⟩)
theorem quot_ok : SoundF Tryz.prog 32 quotR := sound [(24, byR)] (orc_cons by_ok orc_nil) Tryz.func32 (by kernel_rfl) (by kernel_rfl) fun us u hR => ⟨0, fun C E hC => by
 obtain ⟨rfl, hu⟩ := hR
 obtain ⟨s, l, d, k1, e⟩ := by_q (hC 24 byR (by simp)) 1 1 1 (by decide) (by decide +kernel) (by decide +kernel)
 have hu : u = .s 7 [[ui 2, ui 0, ui 0, ui 0, ub false, .l [], .l []], [ui 2, ui 0, ui 0, ui 1, ub false, .l [], .l []], [ui 6, ui 0, ui 1, ui 0, ub false, .l [], .l []], [ui 1, ui 0, ui 0, ui 0, ub s, .l l, .l d], [ui 4, ui 2, ui 3, ui 0, ub false, .l [], .l []]] := by
  rw [hu]
  unfold cU quotC
  rw [← e]
  rfl
 clear e
 cbv; (repeat ((first | refine ln fun _ _ _ => ?_ | refine tt ?_ | refine ff ?_ | refine wr fun _ _ => ?_ | refine rp fun _ _ _ => ?_ | with_reducible refine bq ?_ | refine cl ?_ | refine sd ?_ | intro _ _); cbv)); exact hu.symm⟩
def ofR' (us : List U) (u : U) : Prop := ∃ c i xs x, (∀ t ∈ c, LB t.q) ∧ cnt c ≤ 1000000 ∧ (∀ a ∈ xs, LB a) ∧ cnt xs ≤ 1000000 ∧ nilEq x (qsU xs) ∧ us = [cU c, ui i, x] ∧ u = uR4 (ofS c i xs)
theorem of_ok' : SoundF Tryz.prog 13 ofR' := relax of_ok fun us u ⟨c, i, xs, x, h1, h2, h3, h4, h5, h6, h7⟩ => ⟨_, u, ⟨c, i, xs, h1, h2, h3, h4, rfl, h7⟩, by rw [h6]; exact ⟨.inl rfl, .inl rfl, h5, trivial⟩, .inl rfl⟩
theorem LB_q {q : Rat} (h : fits q = true) : LB (ratOf q) := (LR_ratOf h).wide
theorem quot_LB : ∀ t ∈ quotC, LB t.q := fun t h => by
 unfold quotC at h
 simp only [List.mem_cons, List.not_mem_nil, or_false] at h
 rcases h with rfl | rfl | rfl | rfl | rfl <;> first | exact LB_none | exact LB_q fits_one
theorem w1 : ofS quotC 4 [ratOf 3, ratOf 2] = to4 (ratOf (1 / 2)) := by decide +kernel
theorem w2 : ofS quotC 4 [ratOf 3, ratOf 0] = bad 3 := by decide +kernel
theorem w3 : ofS quotC 4 [ratOf 3] = bad 1 := by decide +kernel
theorem w4 : ofS quotC 3 [] = to4 (ratOf 1) := by decide +kernel
theorem w5 : ofS quotC 5 [ratOf 3, ratOf 2] = bad 1 := by decide +kernel
theorem w6 : divS' quotC 4 [ratOf 3, ratOf 2] = ([1], 0) := by decide +kernel
theorem w7 : mayC quotC 2 = true ∧ needs quotC 2 = [true, true, true, false, false] := by decide +kernel
def yesR (us : List U) (u : U) : Prop := us = [] ∧ u = ub true
theorem wakes_ok : SoundF Tryz.prog 10 yesR := sound [(24, byR), (32, quotR), (13, ofR'), (15, divR), (20, needsR), (17, keepR), (18, keepIntsR), (19, keepBoolsR)] (orc_cons by_ok (orc_cons quot_ok (orc_cons of_ok' (orc_cons div_ok (orc_cons needs_ok (orc_cons keep_ok (orc_cons keepInts_ok (orc_cons keepBools_ok orc_nil)))))))) Tryz.func10 (by kernel_rfl) (by kernel_rfl) fun us u hR => ⟨0, fun C E hC => by
 obtain ⟨rfl, hu⟩ := hR
 have kb := hC 24 byR (by simp)
 obtain ⟨s3, l3, d3, b3, e3⟩ := by_q kb 3 1 3 (by decide) (by decide +kernel) (by decide +kernel)
 obtain ⟨s2, l2, d2, b2, e2⟩ := by_q kb 2 1 2 (by decide) (by decide +kernel) (by decide +kernel)
 obtain ⟨s0, l0, d0, b0, e0⟩ := by_q kb 0 1 0 (by decide) (by decide +kernel) (by decide +kernel)
 obtain ⟨sh, lh, dh, bh, eh⟩ := by_q kb 1 2 (1 / 2) (by decide) (by decide +kernel) (by decide +kernel)
 obtain ⟨s1, l1, d1, b1, e1⟩ := by_q kb 1 1 1 (by decide) (by decide +kernel) (by decide +kernel)
 have kq := hC 32 quotR (by simp) _ _ ⟨rfl, rfl⟩
 have L3 : LB (s3, l3, d3) := e3 ▸ LB_q (by decide +kernel)
 have L2 : LB (s2, l2, d2) := e2 ▸ LB_q (by decide +kernel)
 have L0 : LB (s0, l0, d0) := e0 ▸ LB_q (by decide +kernel)
 have L32 : ∀ a ∈ [(s3, l3, d3), (s2, l2, d2)], LB a := by simp [L3, L2]
 have c5 : cnt quotC ≤ 1000000 := by decide
 have cc : ∀ a b : R3, cnt [a, b] ≤ 1000000 := fun _ _ => by unfold cnt; simp
 have c1 : ∀ a : R3, cnt [a] ≤ 1000000 := fun _ => by unfold cnt; simp
 have o1 := hC 13 ofR' (by simp) _ _ ⟨quotC, 4, [(s3, l3, d3), (s2, l2, d2)], _, quot_LB, c5, L32, cc _ _, .inl rfl, rfl, rfl⟩
 have o2 := hC 13 ofR' (by simp) _ _ ⟨quotC, 4, [(s3, l3, d3), (s0, l0, d0)], _, quot_LB, c5, by simp [L3, L0], cc _ _, .inl rfl, rfl, rfl⟩
 have o3 := hC 13 ofR' (by simp) _ _ ⟨quotC, 4, [(s3, l3, d3)], _, quot_LB, c5, by simp [L3], c1 _, .inl rfl, rfl, rfl⟩
 have o4 := hC 13 ofR' (by simp) _ _ ⟨quotC, 3, [], nilU, quot_LB, c5, by simp, by decide, .inr ⟨rfl, 3, rfl⟩, rfl, rfl⟩
 have o5 := hC 13 ofR' (by simp) _ _ ⟨quotC, 5, [(s3, l3, d3), (s2, l2, d2)], _, quot_LB, c5, L32, cc _ _, .inl rfl, rfl, rfl⟩
 have o6 := hC 15 divR (by simp) _ _ ⟨quotC, 4, [(s3, l3, d3), (s2, l2, d2)], quot_LB, c5, L32, cc _ _, rfl, rfl⟩
 have o7 := hC 20 needsR (by simp) _ _ ⟨quotC, 2, quot_LB, c5, rfl, rfl⟩
 rw [show ofS quotC 4 [(s3, l3, d3), (s2, l2, d2)] = (sh, lh, dh, 0) by rw [e3, e2, w1, ← eh]; rfl] at o1
 rw [show ofS quotC 4 [(s3, l3, d3), (s0, l0, d0)] = bad 3 by rw [e3, e0, w2]] at o2
 rw [show ofS quotC 4 [(s3, l3, d3)] = bad 1 by rw [e3, w3]] at o3
 rw [show ofS quotC 3 [] = (s1, l1, d1, 0) by rw [w4, ← e1]; rfl] at o4
 rw [show ofS quotC 5 [(s3, l3, d3), (s2, l2, d2)] = bad 1 by rw [e3, e2, w5]] at o5
 rw [show divS' quotC 4 [(s3, l3, d3), (s2, l2, d2)] = ([1], 0) by rw [e3, e2, w6]] at o6
 unfold needsU at o7
 rw [if_pos w7.1, show (2 : Int).toNat = 2 by rfl, w7.2] at o7
 have r1 := hC 17 keepR (by simp) _ _ ⟨(sh, lh, dh), (sh, lh, dh), by rw [eh]; decide +kernel, by rw [eh]; decide +kernel, rfl, rfl⟩
 have r2 := hC 17 keepR (by simp) _ _ ⟨(s1, l1, d1), (s1, l1, d1), by rw [e1]; decide +kernel, by rw [e1]; decide +kernel, rfl, rfl⟩
 have r3 := hC 18 keepIntsR (by simp) _ _ ⟨[1], [1], by decide, rfl, rfl⟩
 have r4 := hC 19 keepBoolsR (by simp) _ _ ⟨[true, true, true, false, false], [true, true, true, false, false], by decide, rfl, rfl⟩
 rw [decide_eq_true rfl] at r1 r2 r3 r4
 obtain ⟨cs, hcs⟩ : ∃ cs, cU quotC = .s 7 cs := ⟨_, rfl⟩
 rw [hcs] at o1 o2 o3 o4 o5 o6 o7 kq
 have o1 : C 13 [.s 7 cs, ui 4, .s 3 [[ub s3, .l l3, .l d3], [ub s2, .l l2, .l d2]]] (.tup [.agg [ub sh, .l lh, .l dh], ui 0]) := o1
 have o2 : C 13 [.s 7 cs, ui 4, .s 3 [[ub s3, .l l3, .l d3], [ub s0, .l l0, .l d0]]] (.tup [.agg [ub false, .l [], .l []], ui 3]) := o2
 have o3 : C 13 [.s 7 cs, ui 4, .s 3 [[ub s3, .l l3, .l d3]]] (.tup [.agg [ub false, .l [], .l []], ui 1]) := o3
 have o4 : C 13 [.s 7 cs, ui 3, nilU] (.tup [.agg [ub s1, .l l1, .l d1], ui 0]) := o4
 have o5 : C 13 [.s 7 cs, ui 5, .s 3 [[ub s3, .l l3, .l d3], [ub s2, .l l2, .l d2]]] (.tup [.agg [ub false, .l [], .l []], ui 1]) := o5
 have o6 : C 15 [.s 7 cs, ui 4, .s 3 [[ub s3, .l l3, .l d3], [ub s2, .l l2, .l d2]]] (.tup [.s 1 [[ui 1]], ui 0]) := o6
 have o7 : C 20 [.s 7 cs, ui 2] (.s 1 [[ub true], [ub true], [ub true], [ub false], [ub false]]) := o7
 have r1 : C 17 [.agg [ub sh, .l lh, .l dh], .agg [ub sh, .l lh, .l dh]] (ub true) := r1
 have r2 : C 17 [.agg [ub s1, .l l1, .l d1], .agg [ub s1, .l l1, .l d1]] (ub true) := r2
 have r3 : C 18 [.s 1 [[ui 1]], .s 1 [[ui 1]]] (ub true) := r3
 have r4 : C 19 [.s 1 [[ub true], [ub true], [ub true], [ub false], [ub false]], .s 1 [[ub true], [ub true], [ub true], [ub false], [ub false]]] (ub true) := r4
 clear kb hC L3 L2 L0 L32 cc c1 c5 hcs e0 e1 e2 e3 eh
 cbv
 (repeat ((first | with_reducible refine ln fun _ _ _ => ?_ | refine tt ?_ | refine ff ?_ | with_reducible refine wr fun _ _ => ?_ | refine rp fun _ _ _ => ?_ | with_reducible refine bq ?_ | refine cl ?_ | refine sd ?_); cbv))
 refine el (us := [ub s3, .l l3, .l d3]) ?_ (by decide) rfl
 cbv
 (repeat ((first | with_reducible refine ln fun _ _ _ => ?_ | refine tt ?_ | refine ff ?_ | with_reducible refine wr fun _ _ => ?_ | refine rp fun _ _ _ => ?_ | with_reducible refine bq ?_ | refine cl ?_ | refine sd ?_); cbv))
 refine sd ?_ (by unfold cnt; simp)
 intro ys hys
 obtain rfl : ys = [[ub s3, .l l3, .l d3]] := hys
 cbv
 (repeat ((first | with_reducible refine ln fun _ _ _ => ?_ | refine tt ?_ | refine ff ?_ | with_reducible refine wr fun _ _ => ?_ | refine rp fun _ _ _ => ?_ | with_reducible refine bq ?_ | refine cl ?_ | refine sd ?_); cbv))
 exact hu.symm⟩
theorem relaxG {P : Program} {f : FuncId} {R R' : List U → U → Prop} (hs : SoundF P f R) (h : ∀ us u, R' us u → ∃ us' u', R us' u' ∧ nilEqs us us' ∧ ∀ ok W v, Rep ok W noM u' v → Rep ok W noM u v) : SoundF P f R' := fun us u hR => by
 obtain ⟨us', u', h1, h2, h3⟩ := h us u hR
 obtain ⟨hb, hc⟩ := hs us' u' h1
 refine ⟨hb, fun W S cs hr => ?_⟩
 exact (hc W S cs (nilEqs_reps h2 hr)).mono fun e W' ⟨v, e1, e2, e3⟩ => ⟨v, e1, h3 _ _ _ e2, e3⟩
def divR' (us : List U) (u : U) : Prop := ∃ c i xs, (∀ t ∈ c, LB t.q) ∧ cnt c ≤ 1000000 ∧ (∀ a ∈ xs, LB a) ∧ cnt xs ≤ 1000000 ∧ us = [cU c, ui i, qsU xs] ∧ u = .tup [.s 1 (uis (divS' c i xs).1), ui (divS' c i xs).2]
theorem div_ok' : SoundF Tryz.prog 15 divR' := relaxG div_ok fun us u ⟨c, i, xs, h1, h2, h3, h4, h5, h6⟩ => by
 refine ⟨us, _, ⟨c, i, xs, h1, h2, h3, h4, h5, rfl⟩, eqs_refl _, ?_⟩
 rw [h6]
 split
 ·rename_i h
  rw [h]
  rintro ok W v ⟨vs, e, hr⟩
  exact ⟨vs, e, nilEqs_reps (us := [nilU, ui (divS' c i xs).2]) ⟨.inr ⟨rfl, 1, rfl⟩, .inl rfl, trivial⟩ hr⟩
 ·exact fun _ _ _ h => h
theorem over_no {n : Int} {q : R3} (h : overQ n q = false) : cnt q.2.1 ≤ n ∧ cnt q.2.2 ≤ n := by
 unfold overQ at h
 simp only [Bool.or_eq_false_iff, decide_eq_false_iff_not] at h
 omega
theorem largeC_all {c : List Tm} (h : largeC c = false) : cnt c ≤ 400 ∧ ∀ t ∈ c, cnt t.q.2.1 ≤ 1000000 ∧ cnt t.q.2.2 ≤ 1000000 := by
 unfold largeC at h
 simp only [Bool.or_eq_false_iff, decide_eq_false_iff_not] at h
 refine ⟨by have := h.1.1; omega, fun t ht => ?_⟩
 have := List.any_eq_false.1 h.1.2 t ht
 have := over_no (by simpa using this)
 omega
theorem longL_all {xs : List R3} (h : longL xs = false) : cnt xs ≤ 100 ∧ ∀ t ∈ xs, cnt t.2.1 ≤ 1000000 ∧ cnt t.2.2 ≤ 1000000 := by
 unfold longL at h
 simp only [Bool.or_eq_false_iff, decide_eq_false_iff_not] at h
 have h100 : cnt xs ≤ 100 := by have := h.2; omega
 refine ⟨h100, fun t ht => ?_⟩
 rw [List.take_of_length_le (by unfold cnt at h100; omega)] at h
 have := List.any_eq_false.1 h.1 t ht
 have := over_no (by simpa using this)
 omega
theorem divS'_cnt (c : List Tm) (i : Int) (xs : List R3) : cnt (divS' c i xs).1 ≤ cnt c := by
 unfold divS'
 split
 ·exact picks_cnt _ _
 ·exact cnt0 c
def wCmp0R (us : List U) (u : U) : Prop := ∃ s l, Limbs l ∧ cnt l ≤ 100000 ∧ us = [.agg [ub s, .l l], .agg [ub false, .l []]] ∧ u = ui (cmpZ (Z s l) 0)
theorem wCmp0_ok : SoundF Tryz.prog 45 wCmp0R := sound [(73, wTrimR), (47, nat_Cmp.R)] (orc_cons wTrim_ok (orc_cons nat_Cmp.sound orc_nil)) Tryz.func45 (by kernel_rfl) (by kernel_rfl) fun us u hR => ⟨0, fun C E hC => by
 obtain ⟨s, l, hl, hc, rfl, hu⟩ := hR
 obtain ⟨t1, m1, k1, e1, f1⟩ := tI (hC 73 wTrimR (by simp) _ _ ⟨s, l, hl, by omega, rfl, rfl⟩)
 have k2 := hC 73 wTrimR (by simp) _ _ ⟨false, [], Limbs.nil, by decide, rfl, rfl⟩
 have k2 : C 73 [.agg [ub false, .l []]] (.agg [ub false, .l []]) := by
  have h0 : uI (Z false []) = .agg [ub false, .l []] := by
   show uI (V [] : Int) = _
   unfold uI
   rw [show V [] = 0 from rfl, Int.natAbs_natCast, N_zero]
   rfl
  rwa [h0] at k2
 have b1 := lenV hl
 rw [Z_abs] at f1
 rw [← Z_abs s l] at f1 b1
 generalize Z s l = x at *
 have g1 : Limbs m1 := f1 ▸ N_limbs _
 have k3 := hC 47 nat_Cmp.R (by simp) _ _ (ncmpR g1 Limbs.nil (by rw [f1, cnt_N]; omega) (by decide))
 rw [f1, V_N, show V [] = 0 from rfl, ← f1] at k3
 by_cases hx : x < 0
 ·rw [decide_eq_true hx] at e1
  subst e1
  rw [show cmpZ x 0 = -1 by unfold cmpZ; exact if_pos hx] at hu
  clear f1 g1 k3
  cbv; (repeat ((first | with_reducible refine ln fun _ _ _ => ?_ | refine tt ?_ | refine ff ?_ | with_reducible refine wr fun _ _ => ?_ | refine rp fun _ _ _ => ?_ | with_reducible refine bq ?_ | refine cl ?_ | refine sd ?_); cbv)); exact hu.symm
 ·rw [decide_eq_false hx] at e1
  subst e1
  rw [show cmpN x.natAbs 0 = cmpZ x 0 by unfold cmpN cmpZ; rw [if_neg (by omega), if_neg hx]; by_cases h : 0 < x; rw [if_pos (by omega), if_pos h]; rw [if_neg (by omega), if_neg h], ← hu] at k3
  obtain ⟨v, hv⟩ : ∃ v, u = ui v := ⟨_, hu⟩
  rw [hv] at k3
  clear f1 g1 hu
  cbv; (repeat ((first | with_reducible refine ln fun _ _ _ => ?_ | refine tt ?_ | refine ff ?_ | with_reducible refine wr fun _ _ => ?_ | refine rp fun _ _ _ => ?_ | with_reducible refine bq ?_ | refine cl ?_ | refine sd ?_); cbv)); exact hv.symm⟩
def signR (us : List U) (u : U) : Prop := ∃ a : R3, LB a ∧ us = [uR a] ∧ u = ui (signS a)
theorem sign_ok : SoundF Tryz.prog 26 signR := sound [(27, goodR), (45, wCmp0R)] (orc_cons good_ok (orc_cons wCmp0_ok orc_nil)) Tryz.func26 (by kernel_rfl) (by kernel_rfl) fun us u hR => ⟨0, fun C E hC => by
 obtain ⟨⟨s, l, b⟩, ha, rfl, hu⟩ := hR
 have k1 := hC 27 goodR (by simp) _ _ ⟨_, ha, rfl, rfl⟩
 unfold signS at hu
 by_cases hg : goodB (s, l, b) = true
 ·rw [if_pos hg] at hu
  rw [hg] at k1
  obtain ⟨p, hp, e1, f1, f2, f3, f4, f5, _⟩ := good_parts hg
  have k2 := hC 45 wCmp0R (by simp) _ _ ⟨s, l, f1, by omega, rfl, rfl⟩
  rw [e1] at hu
  have hz := cmpZ_cmpQ p 0
  rw [show (0 : Rat).den = 1 from rfl, show (0 : Rat).num = 0 from rfl, Int.zero_mul] at hz
  rw [show p.num * ((1 : Nat) : Int) = p.num by omega] at hz
  rw [f5, hz] at k2
  generalize cmpQ p 0 = v at *
  clear ha hg f1 f2 f3 f4 f5 e1 hz hp
  cbv; (repeat ((first | with_reducible refine ln fun _ _ _ => ?_ | refine tt ?_ | refine ff ?_ | with_reducible refine wr fun _ _ => ?_ | refine rp fun _ _ _ => ?_ | with_reducible refine bq ?_ | refine cl ?_ | refine sd ?_); cbv)); exact hu.symm
 ·rw [if_neg hg] at hu
  rw [Bool.eq_false_iff.2 hg] at k1
  clear ha hg
  cbv; (repeat ((first | with_reducible refine ln fun _ _ _ => ?_ | refine tt ?_ | refine ff ?_ | with_reducible refine wr fun _ _ => ?_ | refine rp fun _ _ _ => ?_ | with_reducible refine bq ?_ | refine cl ?_ | refine sd ?_); cbv)); exact hu.symm⟩
def zeroR (us : List U) (u : U) : Prop := ∃ c xs, (∀ t ∈ c, TmOk t) ∧ cnt c ≤ 9223372036854775807 ∧ (∀ a ∈ xs, LB a) ∧ cnt xs ≤ 9223372036854775807 ∧ us = [cU c, qsU xs] ∧ u = ub true
theorem zero_ok : SoundF Tryz.prog 6 zeroR := sound [(7, largeCR), (8, longLR), (9, tameR), (10, yesR), (25, mayR), (13, ofR), (15, divR'), (26, signR), (27, goodR), (28, isTwoR), (29, oneR), (17, keepR)] (orc_cons largeC_ok (orc_cons longL_ok (orc_cons tame_ok (orc_cons wakes_ok (orc_cons may_ok (orc_cons of_ok (orc_cons div_ok' (orc_cons sign_ok (orc_cons good_ok (orc_cons two_ok (orc_cons one_ok (orc_cons keep_ok orc_nil)))))))))))) Tryz.func6 (by kernel_rfl) (by kernel_rfl) fun us u hR => by
 obtain ⟨c, xs, hq, hn, hx, hxn, rfl, hu⟩ := hR
 obtain ⟨r, hr⟩ : ∃ r, (cnt c).toNat + 10 < r := ⟨_, Nat.lt_succ_self _⟩
 refine ⟨r, fun C E hC => ?_⟩
 have hqL : ∀ t ∈ c, LB t.q := fun t h => (hq t h).q
 have kl := hC 7 largeCR (by simp) _ _ ⟨c, hn, rfl, rfl⟩
 have kx := hC 8 longLR (by simp) _ _ ⟨xs, hxn, rfl, rfl⟩
 have kt := hC 9 tameR (by simp) _ _ ⟨c, xs, hn, hxn, rfl, rfl⟩
 have kw := hC 10 yesR (by simp) _ _ ⟨rfl, rfl⟩
 have hl4 := fun h => largeC_all (c := c) h
 have hl1 := fun h => longL_all (xs := xs) h
 have hcn := fun i (h0 : 0 ≤ i) (h1 : i < cnt c) => nth_map (c := c) tU h0 h1
 have hcc := cnt_map c tU
 have hc0 := cnt0 c
 generalize largeC c = b1 at *
 generalize longL xs = b2 at *
 generalize tameB c xs = b3 at *
 obtain ⟨cs, hcs⟩ : ∃ cs, c.map tU = cs := ⟨_, rfl⟩
 obtain ⟨ys, hys⟩ : ∃ ys, qsU xs = .s 3 ys := ⟨_, rfl⟩
 have ecU : cU c = .s 7 cs := by rw [← hcs]; rfl
 rw [hcs] at hcn hcc
 rw [ecU] at kl kt ⊢
 rw [hys] at kx kt ⊢
 cases b1
 case true =>
  clear hl4 hl1 hC hcn
  cbv
  (repeat ((first | with_reducible refine ln fun _ _ _ => ?_ | refine tt ?_ | refine ff ?_ | with_reducible refine wr fun _ _ => ?_ | refine rp fun _ _ _ => ?_ | with_reducible refine bq ?_ | refine cl ?_ | refine sd ?_); cbv))
  exact hu.symm
 cases b2
 case true =>
  clear hl4 hl1 hC hcn
  cbv
  (repeat ((first | with_reducible refine ln fun _ _ _ => ?_ | refine tt ?_ | refine ff ?_ | with_reducible refine wr fun _ _ => ?_ | refine rp fun _ _ _ => ?_ | with_reducible refine bq ?_ | refine cl ?_ | refine sd ?_); cbv))
  exact hu.symm
 cases b3
 case false =>
  clear hl4 hl1 hC hcn
  cbv
  (repeat ((first | with_reducible refine ln fun _ _ _ => ?_ | refine tt ?_ | refine ff ?_ | with_reducible refine wr fun _ _ => ?_ | refine rp fun _ _ _ => ?_ | with_reducible refine bq ?_ | refine cl ?_ | refine sd ?_); cbv))
  exact hu.symm
 obtain ⟨hl4, hb7⟩ := hl4 rfl
 obtain ⟨hl1, hb3⟩ := hl1 rfl
 have c1 : cnt c ≤ 1000000 := by omega
 have c2 : cnt xs ≤ 1000000 := by omega
 obtain ⟨i, hi⟩ : ∃ i, i = cnt c - 1 := ⟨_, rfl⟩
 have oM := hC 25 mayR (by simp) _ _ ⟨c, i, xs, hqL, c1, hx, c2, rfl, rfl⟩
 have oF := fun k => hC 13 ofR (by simp) _ _ ⟨c, k, xs, hqL, c1, hx, c2, rfl, rfl⟩
 have oD := hC 15 divR' (by simp) _ _ ⟨c, i, xs, hqL, c1, hx, c2, rfl, rfl⟩
 have oS := fun a h => hC 26 signR (by simp) _ _ ⟨a, h, rfl, rfl⟩
 have oG := fun a h => hC 27 goodR (by simp) _ _ ⟨a, h, rfl, rfl⟩
 have oT := fun k => hC 28 isTwoR (by simp) _ _ ⟨k, rfl, rfl⟩
 have oO := hC 29 oneR (by simp)
 have oK := fun (a : R3) (h : LR a) => hC 17 keepR (by simp) _ _ ⟨a, a, by have := h.lt; unfold cnt; omega, by have := h.lb; unfold cnt; omega, rfl, rfl⟩
 rw [ecU, hys] at oM oD
 rw [ecU, hys] at oF
 have hLR := fun k => LR_of c k xs
 clear hC hb7 hb3 hq
 rcases Decidable.em (cnt c = 0) with hz | hz
 ·clear oM oF oD oS oG oT oO oK hcn
  cbv
  (repeat ((first | with_reducible refine ln fun _ _ _ => ?_ | refine tt ?_ | refine ff ?_ | with_reducible refine wr fun _ _ => ?_ | refine rp fun _ _ _ => ?_ | with_reducible refine bq ?_ | refine cl ?_ | refine sd ?_); cbv))
  exact hu.symm
 cases hm : madeB c i xs
 ·rw [hm] at oM
  clear oF oD oS oG oT oO oK hcn
  cbv
  (repeat ((first | with_reducible refine ln fun _ _ _ => ?_ | refine tt ?_ | refine ff ?_ | with_reducible refine wr fun _ _ => ?_ | refine rp fun _ _ _ => ?_ | with_reducible refine bq ?_ | refine cl ?_ | refine sd ?_); cbv))
  rename_i n1 hn1 hn1' n2 hn2 hn2' v hv
  obtain rfl : i = v := by omega
  cbv
  (repeat ((first | with_reducible refine ln fun _ _ _ => ?_ | refine tt ?_ | refine ff ?_ | with_reducible refine wr fun _ _ => ?_ | refine rp fun _ _ _ => ?_ | with_reducible refine bq ?_ | refine cl ?_ | refine sd ?_); cbv))
  exact hu.symm
 rw [hm] at oM
 have hz := zero_law hm
 obtain ⟨dl, hdl⟩ : ∃ dl, divS' c i xs = (dl, 0) := ⟨(divS' c i xs).1, by unfold divS'; rw [if_pos hm]⟩
 have hdc := divS'_cnt c i xs
 have hdm : ∀ d ∈ dl, 0 ≤ d ∧ d ≤ i := fun d hd => by
  unfold divS' at hdl
  rw [if_pos hm] at hdl
  injection hdl with hdl
  rw [← hdl, mem_picks] at hd
  unfold cnt at hi
  omega
 have hgc : goodC c = true := by
  unfold madeB mayC at hm
  simp only [Bool.and_eq_true, decide_eq_true_eq] at hm
  exact hm.1.1.2
 have hrf : ∀ t, c[i.toNat]? = some t → t.k = 2 → t.n < cnt xs := fun t ht hk => by
  unfold madeB mayC at hm
  simp only [Bool.and_eq_true, decide_eq_true_eq] at hm
  exact refs_iff.1 hm.2 i.toNat t ht (needs_root hm.1.1.1.1 hm.1.1.1.2) hk
 have hok : ∀ t, c[i.toNat]? = some t → termOk t i = true := fun t ht => by
  have := goodC_iff.1 hgc i.toNat t ht
  rwa [show (i.toNat : Int) = i by omega] at this
 rw [hdl] at oD hdc
 have hdc : cnt dl ≤ cnt c := hdc
 have oD : C 15 [.s 7 cs, ui i, .s 3 ys] (.tup [.s 1 (uis dl), ui 0]) := oD
 have hlx := fun j (h0 : 0 ≤ j) (h1 : j < cnt dl) => nth_map (c := dl) (fun x => [ui x]) h0 h1
 have hlc := cnt_map dl fun x => [ui x]
 have hd0 := cnt0 dl
 unfold uis at oD
 generalize dl.map (fun x => [ui x]) = ls at *
 obtain ⟨s5, l5, d5, e5, o5, p5⟩ := tR4 (oF i)
 clear hm hgc hl4 hl1
 cbv
 (repeat ((first | with_reducible refine ln fun _ _ _ => ?_ | refine tt ?_ | refine ff ?_ | with_reducible refine wr fun _ _ => ?_ | refine rp fun _ _ _ => ?_ | with_reducible refine bq ?_ | refine cl ?_ | refine sd ?_); cbv))
 rename_i n1 hn1 hn1' n2 hn2 hn2' v hv
 obtain rfl : i = v := by omega
 cbv
 (repeat ((first | with_reducible refine ln fun _ _ _ => ?_ | refine tt ?_ | refine ff ?_ | with_reducible refine wr fun _ _ => ?_ | refine rp fun _ _ _ => ?_ | with_reducible refine bq ?_ | refine cl ?_ | refine sd ?_); cbv))
 rename_i n3 hn3 hn3' v hv2
 obtain rfl : i = v := by omega
 cbv
 (repeat ((first | with_reducible refine ln fun _ _ _ => ?_ | refine tt ?_ | refine ff ?_ | with_reducible refine wr fun _ _ => ?_ | refine rp fun _ _ _ => ?_ | with_reducible refine bq ?_ | refine cl ?_ | refine sd ?_); cbv))
 refine lets [0, 1, 5, 6, 7, 8, 10, 11] ?_
 cbv
 refine loop_inv (fun j a h => ∃ (q : Int) (b : Bool), 0 ≤ q ∧ q ≤ cnt dl ∧ j = (cnt dl - q).toNat ∧ b = (dl.take q.toNat).any (nought c xs) ∧ a = [.s 7 cs, .s 3 ys, .lost, .lost, .lost, ui i, .ptr 0 0, ui e5, .s 1 ls, .lost, ub b, ui q, .lost, .lost, .lost, .lost, .lost, .lost, .lost, .lost, .lost, .lost, .lost, .lost, .lost, .lost, .lost, .lost, .lost, .lost, .lost, .lost, .lost, .lost, .lost, .lost, .lost, .lost, .lost, .lost, .lost, .lost, .lost, .lost, .lost, .lost, .lost, .lost, .lost, .lost, .lost, .lost, .lost, .lost, .lost, .lost, .lost, .lost, .lost, .lost, .lost, .lost, .lost, .lost, .lost, .lost, .lost, .lost, .lost, .lost, .lost, .lost, .lost, .lost, .lost, .lost, .lost, .lost, .lost, .lost, .lost, .lost, .lost, .lost, .lost, .lost, .lost, .lost, .lost, .lost, .lost, .lost, .lost, .lost, .lost, .lost, .lost, .lost, .lost, .lost, .lost, .lost, .lost, .lost, .lost, .lost, .lost, .lost, .lost, .lost, .lost, .lost, .lost, .lost, .lost, .lost, .lost, .lost, .lost, .lost, .lost, .lost, .lost, .lost, .lost, .lost, .lost, .lost, .lost, .lost, .lost, .lost, .lost, .lost, .lost, .lost, .lost, .lost, .lost, .lost, .lost, .lost, .lost, .lost, .lost, .lost, .lost, .lost, .lost, .lost, .lost, .lost, .lost, .lost, .lost, .lost, .lost, .lost, .lost, .lost, .lost, .lost, .lost, .lost, .lost, .lost, .lost, .lost, .lost, .lost, .lost, .lost, .lost, .lost] ∧ h = [some (.cells [ub s5, .l l5, .l d5])]) ?_ r (cnt dl).toNat _ _ (by omega) ⟨0, false, by omega, by omega, by omega, rfl, rfl, rfl⟩
 rintro j a h K ⟨q, b, q0, q1, hj, hb, rfl, rfl⟩ hK
 rcases Decidable.em (q < cnt dl) with hlt | hlt
 ·obtain ⟨d, hd, hd2⟩ := hlx q q0 hlt
  obtain ⟨g0, g1⟩ := hdm d (List.mem_of_getElem? hd)
  obtain ⟨s8, l8, d8, e8, o8, p8⟩ := tR4 (oF d)
  have k8 := oS (s8, l8, d8) (by have := (hLR d).wide; rw [← p8] at this; exact this)
  have hno : nought c xs d = (decide (e8 = 0) && decide (signS (s8, l8, d8) = 0)) := by unfold nought; rw [← p8]; rfl
  have hnext : (dl.take (q + 1).toNat).any (nought c xs) = (b || (decide (e8 = 0) && decide (signS (s8, l8, d8) = 0))) := by
   rw [take_next q0 hd, List.any_append, ← hb, ← hno]
   simp
  have k8 : C 26 [.agg [ub s8, .l l8, .l d8]] (ui (signS (s8, l8, d8))) := k8
  generalize signS (s8, l8, d8) = sg at *
  clear hz hcn hlx hdm oF oS oG oT oO oK p8 p5 hno hok hrf
  cases b
  ·rw [Bool.false_or] at hnext
   rcases Decidable.em (e8 = 0) with h1 | h1
   ·rcases Decidable.em (sg = 0) with h2 | h2
    ·rw [decide_eq_true h1, decide_eq_true h2] at hnext
     cbv
     (repeat ((first | with_reducible refine ln fun _ _ _ => ?_ | refine tt ?_ | refine ff ?_ | with_reducible refine wr fun _ _ => ?_ | refine rp fun _ _ _ => ?_ | with_reducible refine bq ?_ | refine cl ?_ | refine sd ?_); cbv))
     repeat (refine el ?_ (by omega) hd2; cbv; (repeat ((first | with_reducible refine ln fun _ _ _ => ?_ | refine tt ?_ | refine ff ?_ | with_reducible refine wr fun _ _ => ?_ | refine rp fun _ _ _ => ?_ | with_reducible refine bq ?_ | refine cl ?_ | refine sd ?_); cbv)))
     rename_i q' hq'
     refine lets [0, 1, 5, 6, 7, 8, 10, 11] ?_
     exact hK (cnt dl - (q + 1)).toNat _ _ (by omega) ⟨q + 1, true, by omega, by omega, rfl, by rw [hnext]; rfl, by rw [hq']; rfl, rfl⟩
    ·rw [decide_eq_true h1, decide_eq_false h2] at hnext
     cbv
     (repeat ((first | with_reducible refine ln fun _ _ _ => ?_ | refine tt ?_ | refine ff ?_ | with_reducible refine wr fun _ _ => ?_ | refine rp fun _ _ _ => ?_ | with_reducible refine bq ?_ | refine cl ?_ | refine sd ?_); cbv))
     repeat (refine el ?_ (by omega) hd2; cbv; (repeat ((first | with_reducible refine ln fun _ _ _ => ?_ | refine tt ?_ | refine ff ?_ | with_reducible refine wr fun _ _ => ?_ | refine rp fun _ _ _ => ?_ | with_reducible refine bq ?_ | refine cl ?_ | refine sd ?_); cbv)))
     rename_i q' hq'
     refine lets [0, 1, 5, 6, 7, 8, 10, 11] ?_
     exact hK (cnt dl - (q + 1)).toNat _ _ (by omega) ⟨q + 1, false, by omega, by omega, rfl, by rw [hnext]; rfl, by rw [hq']; rfl, rfl⟩
   ·rw [decide_eq_false h1, Bool.false_and] at hnext
    cbv
    (repeat ((first | with_reducible refine ln fun _ _ _ => ?_ | refine tt ?_ | refine ff ?_ | with_reducible refine wr fun _ _ => ?_ | refine rp fun _ _ _ => ?_ | with_reducible refine bq ?_ | refine cl ?_ | refine sd ?_); cbv))
    repeat (refine el ?_ (by omega) hd2; cbv; (repeat ((first | with_reducible refine ln fun _ _ _ => ?_ | refine tt ?_ | refine ff ?_ | with_reducible refine wr fun _ _ => ?_ | refine rp fun _ _ _ => ?_ | with_reducible refine bq ?_ | refine cl ?_ | refine sd ?_); cbv)))
    rename_i q' hq'
    refine lets [0, 1, 5, 6, 7, 8, 10, 11] ?_
    exact hK (cnt dl - (q + 1)).toNat _ _ (by omega) ⟨q + 1, false, by omega, by omega, rfl, hnext.symm, by rw [hq']; rfl, rfl⟩
  ·rw [Bool.true_or] at hnext
   cbv
   (repeat ((first | with_reducible refine ln fun _ _ _ => ?_ | refine tt ?_ | refine ff ?_ | with_reducible refine wr fun _ _ => ?_ | refine rp fun _ _ _ => ?_ | with_reducible refine bq ?_ | refine cl ?_ | refine sd ?_); cbv))
   repeat (refine el ?_ (by omega) hd2; cbv; (repeat ((first | with_reducible refine ln fun _ _ _ => ?_ | refine tt ?_ | refine ff ?_ | with_reducible refine wr fun _ _ => ?_ | refine rp fun _ _ _ => ?_ | with_reducible refine bq ?_ | refine cl ?_ | refine sd ?_); cbv)))
   rename_i q' hq'
   refine lets [0, 1, 5, 6, 7, 8, 10, 11] ?_
   exact hK (cnt dl - (q + 1)).toNat _ _ (by omega) ⟨q + 1, true, by omega, by omega, rfl, hnext.symm, by rw [hq']; rfl, rfl⟩
 have hall : dl.take q.toNat = dl := List.take_of_length_le (by unfold cnt at hlt; omega)
 rw [hall] at hb
 rw [hdl, ← p5, ← hb] at hz
 rcases hz with h2 | ⟨h3, hbt⟩ | ⟨h0, hW⟩
 ·have h2 : e5 = 2 := h2
  subst h2
  clear hcn hlx hdm oF oS oG oT oO oK hok hrf hK
  cbv
  (repeat ((first | with_reducible refine ln fun _ _ _ => ?_ | refine tt ?_ | refine ff ?_ | with_reducible refine wr fun _ _ => ?_ | refine rp fun _ _ _ => ?_ | with_reducible refine bq ?_ | refine cl ?_ | refine sd ?_); cbv))
  exact hu.symm
 ·have h3 : e5 = 3 := h3
  subst h3
  subst hbt
  clear hcn hlx hdm oF oS oG oT oO oK hok hrf hK
  cbv
  (repeat ((first | with_reducible refine ln fun _ _ _ => ?_ | refine tt ?_ | refine ff ?_ | with_reducible refine wr fun _ _ => ?_ | refine rp fun _ _ _ => ?_ | with_reducible refine bq ?_ | refine cl ?_ | refine sd ?_); cbv))
  exact hu.symm
 ·have h0 : e5 = 0 := h0
  subst h0
  obtain ⟨w1, w2, w3⟩ := hW
  rw [← p5] at w1 w3
  rw [hdl, ← hb] at w2
  subst w2
  obtain ⟨t, ht, hy⟩ := hcn i (by omega) (by omega)
  have kG := oG (s5, l5, d5) (by have := (hLR i).wide; rw [← p5] at this; exact this)
  rw [show goodB (s5, l5, d5) = true from w1] at kG
  have kK := oK (s5, l5, d5) (by have := hLR i; rw [← p5] at this; exact this)
  rw [decide_eq_true rfl] at kK
  have w3 := w3 t ht
  have htk := hok t ht
  have hrt := hrf t ht
  have kT := oT t.k
  obtain ⟨sa, la, da, ea, oA, pA⟩ := tR4 (oF t.a)
  obtain ⟨sb, lb, db, eb, oB, pB⟩ := tR4 (oF t.b)
  have LA : LB (sa, la, da) := by have := (hLR t.a).wide; rw [← pA] at this; exact this
  have LBb : LB (sb, lb, db) := by have := (hLR t.b).wide; rw [← pB] at this; exact this
  have k1 := oO _ _ ⟨t, i, (sa, la, da), (sa, la, da), xs, htk, hrt, LA, LA, rfl, rfl⟩
  have k2 := oO _ _ ⟨t, i, (sa, la, da), (sb, lb, db), xs, htk, hrt, LA, LBb, rfl, rfl⟩
  rw [hys] at k1 k2
  rw [← pA, ← pB] at w3
  obtain ⟨kd, ta, tb, m, s, l, d⟩ := t
  dsimp only at w3 kT oA oB
  have kG : C 27 [.agg [ub s5, .l l5, .l d5]] (ub true) := kG
  have kK : C 17 [.agg [ub s5, .l l5, .l d5], .agg [ub s5, .l l5, .l d5]] (ub true) := kK
  clear hcn hlx hdm oF oS oG oT oO oK hok hrf hK hrt htk LA LBb pA pB p5
  rcases Decidable.em (kd = 1) with h1 | h1
  ·cbv
   (repeat ((first | with_reducible refine ln fun _ _ _ => ?_ | refine tt ?_ | refine ff ?_ | with_reducible refine wr fun _ _ => ?_ | refine rp fun _ _ _ => ?_ | with_reducible refine bq ?_ | refine cl ?_ | refine sd ?_); cbv))
   refine el ?_ (by omega) hy
   cbv
   (repeat ((first | with_reducible refine ln fun _ _ _ => ?_ | refine tt ?_ | refine ff ?_ | with_reducible refine wr fun _ _ => ?_ | refine rp fun _ _ _ => ?_ | with_reducible refine bq ?_ | refine cl ?_ | refine sd ?_); cbv))
   exact hu.symm
  rcases Decidable.em (kd = 2) with h2 | h2
  ·cbv
   (repeat ((first | with_reducible refine ln fun _ _ _ => ?_ | refine tt ?_ | refine ff ?_ | with_reducible refine wr fun _ _ => ?_ | refine rp fun _ _ _ => ?_ | with_reducible refine bq ?_ | refine cl ?_ | refine sd ?_); cbv))
   refine el ?_ (by omega) hy
   cbv
   (repeat ((first | with_reducible refine ln fun _ _ _ => ?_ | refine tt ?_ | refine ff ?_ | with_reducible refine wr fun _ _ => ?_ | refine rp fun _ _ _ => ?_ | with_reducible refine bq ?_ | refine cl ?_ | refine sd ?_); cbv))
   exact hu.symm
  obtain ⟨w4, w5, w6⟩ := w3 h1 h2
  have w4 : ea = 0 := w4
  subst w4
  cases htw : twoB kd
  ·rw [htw] at w6 kT
   rw [if_neg (by simp)] at w6
   have w6 : oneS ⟨kd, ta, tb, m, (s, l, d)⟩ (sa, la, da) (sa, la, da) xs = (s5, l5, d5, 0) := w6
   rw [w6] at k1
   have k1 : C 29 [.agg [ui kd, ui ta, ui tb, ui m, ub s, .l l, .l d], .agg [ub sa, .l la, .l da], .agg [ub sa, .l la, .l da], .s 3 ys] (.agg [ub s5, .l l5, .l d5, ui 0]) := k1
   clear k2 oB w5
   cbv
   (repeat ((first | with_reducible refine ln fun _ _ _ => ?_ | refine tt ?_ | refine ff ?_ | with_reducible refine wr fun _ _ => ?_ | refine rp fun _ _ _ => ?_ | with_reducible refine bq ?_ | refine cl ?_ | refine sd ?_); cbv))
   refine el ?_ (by omega) hy
   cbv
   (repeat ((first | with_reducible refine ln fun _ _ _ => ?_ | refine tt ?_ | refine ff ?_ | with_reducible refine wr fun _ _ => ?_ | refine rp fun _ _ _ => ?_ | with_reducible refine bq ?_ | refine cl ?_ | refine sd ?_); cbv))
   exact hu.symm
  ·rw [htw] at w6 kT
   have w5 : eb = 0 := w5 htw
   subst w5
   rw [if_pos rfl] at w6
   have w6 : oneS ⟨kd, ta, tb, m, (s, l, d)⟩ (sa, la, da) (sb, lb, db) xs = (s5, l5, d5, 0) := w6
   rw [w6] at k2
   have k2 : C 29 [.agg [ui kd, ui ta, ui tb, ui m, ub s, .l l, .l d], .agg [ub sa, .l la, .l da], .agg [ub sb, .l lb, .l db], .s 3 ys] (.agg [ub s5, .l l5, .l d5, ui 0]) := k2
   clear k1
   cbv
   (repeat ((first | with_reducible refine ln fun _ _ _ => ?_ | refine tt ?_ | refine ff ?_ | with_reducible refine wr fun _ _ => ?_ | refine rp fun _ _ _ => ?_ | with_reducible refine bq ?_ | refine cl ?_ | refine sd ?_); cbv))
   refine el ?_ (by omega) hy
   cbv
   (repeat ((first | with_reducible refine ln fun _ _ _ => ?_ | refine tt ?_ | refine ff ?_ | with_reducible refine wr fun _ _ => ?_ | refine rp fun _ _ _ => ?_ | with_reducible refine bq ?_ | refine cl ?_ | refine sd ?_); cbv))
   exact hu.symm
end Go.Proofs.YtheciiemknmnoaaGreat.Rd
end
