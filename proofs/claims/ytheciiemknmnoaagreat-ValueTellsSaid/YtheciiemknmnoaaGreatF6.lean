/- Part 6 of the proof. -/
import Derived.Test.YtheciiemknmnoaaGreatProg
import Derived.Laws.Tables
import Derived.Orders
import Derived.Below
import Derived.Deep.Draws
import Derived.Deep.AppendLies
import Derived.Maps.AppendAt
import Derived.OwnWalk
import Derived.Laws.BytesArg
import Derived.Laws.MakeOwn
import Derived.Laws.OwnMore
import Derived.Deep.OwnRows
import Derived.Tactics
import Derived.Lib.ConvBytes
import Derived.Laws.Slices
import Derived.WalkKit
import Derived.KernelRfl
import Derived.RowKit3
import Derived.Deep.LoopGhost
import Derived.Deep.QuietTactic
import Derived.BigQuiet
import Derived.WideLaws
import Derived.Deep.DeepCutAuto
import Derived.Deep.CutBlock
import Derived.Deep.RegionHeld3
import Derived.Laws.Rows
import Derived.Lib.AppendStr
import Derived.ArgAppend
import Derived.Laws.IdiomCopy
import Derived.RowKit
import Derived.OrdersHeld
import Derived.Laws.BitsLemmas
import Derived.Laws.Cells
import Derived.Great.BuildSlice
import Derived.Deep.Slices
import Derived.Laws.AppendOwn
import Derived.Laws.LoneSync
import Derived.LoopN
import Derived.Laws.StructEq
import Derived.Laws.Bits64b
import Derived.Laws.BitsAllLaws
import Derived.Test.YtheciiemknmnoaaGreatF5
set_option linter.unusedVariables false
set_option linter.unusedSimpArgs false
section
set_option linter.unusedVariables false
set_option linter.unusedSimpArgs false
set_option maxRecDepth 100000
set_option maxHeartbeats 4000000
namespace Go.Proofs.YtheciiemknmnoaaGreat.Rd
open Go Go.RowKit Go.Proofs.YtheciiemknmnoaaGreatW.PrintWords Go.Proofs.YtheciiemknmnoaaGreat.PL Go.Proofs.YtheciiemknmnoaaGreat.Num

def tameB (c : List Tm) (xs : List R3) : Bool := !(c.any fun t => overQ 4 t.q) && (!(xs.any (overQ 4)) && decide (cnt c ≤ 60))
def tameR (us : List U) (u : U) : Prop := ∃ c xs, cnt c ≤ 9223372036854775807 ∧ cnt xs ≤ 9223372036854775807 ∧ us = [cU c, qsU xs] ∧ u = ub (tameB c xs)
theorem over_4 {s : Bool} {l d : List Int} : (overQ 4 (s, l, d) = true ↔ 4 < cnt l ∨ 4 < cnt d) := by
 unfold overQ
 simp
theorem tame_ok : SoundF Tryz.prog 9 tameR := sound [] orc_nil Tryz.func9 (by kernel_rfl) (by kernel_rfl) fun us u hR => by
 obtain ⟨c, xs, hn, hxn, rfl, hu⟩ := hR
 obtain ⟨r, hr⟩ : ∃ r, (cnt c).toNat + (cnt xs).toNat < r := ⟨_, Nat.lt_succ_self _⟩
 refine ⟨r, fun C E hC => ?_⟩
 have hm := fun i (h0 : 0 ≤ i) (h1 : i < cnt c) => nth_map (c := c) tU h0 h1
 have hmx := fun i (h0 : 0 ≤ i) (h1 : i < cnt xs) => nth_map (c := xs) qU h0 h1
 have hc := cnt_map c tU
 have hxc := cnt_map xs qU
 have hc0 := cnt0 c
 have hx0 := cnt0 xs
 unfold tameB at hu
 unfold cU qsU
 generalize c.map tU = cs at *
 generalize xs.map qU = ys at *
 cbv
 (repeat ((first | with_reducible refine ln fun _ _ _ => ?_ | refine tt ?_ | refine ff ?_ | with_reducible refine wr fun _ _ => ?_ | refine rp fun _ _ _ => ?_ | with_reducible refine bq ?_ | refine cl ?_ | refine sd ?_); cbv))
 refine lets [0, 1, 5] ?_
 cbv
 refine loop_inv (fun j a h => ∃ i : Int, 0 ≤ i ∧ i ≤ cnt c ∧ j = (cnt c - i).toNat ∧ (∀ (x : Nat) t, (x : Int) < i → c[x]? = some t → overQ 4 t.q = false) ∧ a = [.s 7 cs, .s 3 ys, .lost, .lost, .lost, ui i, .lost, .lost, .lost, .lost, .lost, .lost, .lost, .lost, .lost, .lost, .lost, .lost, .lost, .lost, .lost, .lost, .lost, .lost, .lost, .lost, .lost, .lost, .lost, .lost, .lost, .lost, .lost, .lost, .lost, .lost, .lost, .lost, .lost, .lost, .lost, .lost, .lost, .lost, .lost, .lost, .lost, .lost, .lost, .lost, .lost, .lost, .lost, .lost, .lost, .lost, .lost, .lost] ∧ h = []) ?_ r (cnt c).toNat _ _ (by omega) ⟨0, by omega, by omega, by omega, fun x t hx _ => absurd hx (by omega), rfl, rfl⟩
 rintro j a h K ⟨i, i0, i1, hj, hg, rfl, rfl⟩ hK
 rcases Decidable.em (i < cnt c) with hlt | hlt
 ·obtain ⟨t, ht, hx⟩ := hm i i0 hlt
  have hg1 := fun hf => any_upto (f := fun t => overQ 4 t.q) i0 ht hf hg
  have hg2 : overQ 4 t.q = true → (c.any fun t => overQ 4 t.q) = true := fun hf => any_yes (f := fun t => overQ 4 t.q) ht hf
  obtain ⟨kd, ta, tb, m, s, l, d⟩ := t
  dsimp only at hg1 hg2
  have ho := over_4 (s := s) (l := l) (d := d)
  generalize overQ 4 (s, l, d) = g at *
  clear hm hmx hg
  rcases Decidable.em (4 < cnt l) with h1 | h1
  ·rw [hg2 (ho.2 (.inl h1)), Bool.not_true, Bool.false_and] at hu
   clear hg1 hg2 hK ho
   cbv
   (repeat ((first | with_reducible refine ln fun _ _ _ => ?_ | refine tt ?_ | refine ff ?_ | with_reducible refine wr fun _ _ => ?_ | refine rp fun _ _ _ => ?_ | with_reducible refine bq ?_ | refine cl ?_ | refine sd ?_); cbv))
   refine el ?_ (by omega) hx
   cbv
   (repeat ((first | with_reducible refine ln fun _ _ _ => ?_ | refine tt ?_ | refine ff ?_ | with_reducible refine wr fun _ _ => ?_ | refine rp fun _ _ _ => ?_ | with_reducible refine bq ?_ | refine cl ?_ | refine sd ?_); cbv))
   exact hu.symm
  rcases Decidable.em (4 < cnt d) with h2 | h2
  ·rw [hg2 (ho.2 (.inr h2)), Bool.not_true, Bool.false_and] at hu
   clear hg1 hg2 hK ho
   cbv
   (repeat ((first | with_reducible refine ln fun _ _ _ => ?_ | refine tt ?_ | refine ff ?_ | with_reducible refine wr fun _ _ => ?_ | refine rp fun _ _ _ => ?_ | with_reducible refine bq ?_ | refine cl ?_ | refine sd ?_); cbv))
   refine el ?_ (by omega) hx
   cbv
   (repeat ((first | with_reducible refine ln fun _ _ _ => ?_ | refine tt ?_ | refine ff ?_ | with_reducible refine wr fun _ _ => ?_ | refine rp fun _ _ _ => ?_ | with_reducible refine bq ?_ | refine cl ?_ | refine sd ?_); cbv))
   refine el ?_ (by omega) hx
   cbv
   (repeat ((first | with_reducible refine ln fun _ _ _ => ?_ | refine tt ?_ | refine ff ?_ | with_reducible refine wr fun _ _ => ?_ | refine rp fun _ _ _ => ?_ | with_reducible refine bq ?_ | refine cl ?_ | refine sd ?_); cbv))
   exact hu.symm
  ·have hg1 := hg1 (by cases g; rfl; exact absurd (ho.1 rfl) (by omega))
   clear hg2 ho
   cbv
   (repeat ((first | with_reducible refine ln fun _ _ _ => ?_ | refine tt ?_ | refine ff ?_ | with_reducible refine wr fun _ _ => ?_ | refine rp fun _ _ _ => ?_ | with_reducible refine bq ?_ | refine cl ?_ | refine sd ?_); cbv))
   refine el ?_ (by omega) hx
   cbv
   (repeat ((first | with_reducible refine ln fun _ _ _ => ?_ | refine tt ?_ | refine ff ?_ | with_reducible refine wr fun _ _ => ?_ | refine rp fun _ _ _ => ?_ | with_reducible refine bq ?_ | refine cl ?_ | refine sd ?_); cbv))
   refine el ?_ (by omega) hx
   cbv
   (repeat ((first | with_reducible refine ln fun _ _ _ => ?_ | refine tt ?_ | refine ff ?_ | with_reducible refine wr fun _ _ => ?_ | refine rp fun _ _ _ => ?_ | with_reducible refine bq ?_ | refine cl ?_ | refine sd ?_); cbv))
   rename_i i' hi'
   refine lets [0, 1, 5] ?_
   exact hK (cnt c - (i + 1)).toNat _ _ (by omega) ⟨i + 1, by omega, by omega, rfl, hg1, by rw [hi']; rfl, rfl⟩
 rw [any_no (f := fun t => overQ 4 t.q) fun x t hx => hg x t (by omega), Bool.not_false, Bool.true_and] at hu
 clear hg hm hK
 cbv
 (repeat ((first | with_reducible refine ln fun _ _ _ => ?_ | refine tt ?_ | refine ff ?_ | with_reducible refine wr fun _ _ => ?_ | refine rp fun _ _ _ => ?_ | with_reducible refine bq ?_ | refine cl ?_ | refine sd ?_); cbv))
 refine lets [0, 1, 6] ?_
 cbv
 refine loop_inv (fun j a h => ∃ i : Int, 0 ≤ i ∧ i ≤ cnt xs ∧ j = (cnt xs - i).toNat ∧ (∀ (x : Nat) t, (x : Int) < i → xs[x]? = some t → overQ 4 t = false) ∧ a = [.s 7 cs, .s 3 ys, .lost, .lost, .lost, .lost, ui i, .lost, .lost, .lost, .lost, .lost, .lost, .lost, .lost, .lost, .lost, .lost, .lost, .lost, .lost, .lost, .lost, .lost, .lost, .lost, .lost, .lost, .lost, .lost, .lost, .lost, .lost, .lost, .lost, .lost, .lost, .lost, .lost, .lost, .lost, .lost, .lost, .lost, .lost, .lost, .lost, .lost, .lost, .lost, .lost, .lost, .lost, .lost, .lost, .lost, .lost, .lost] ∧ h = []) ?_ r (cnt xs).toNat _ _ (by omega) ⟨0, by omega, by omega, by omega, fun x t hx _ => absurd hx (by omega), rfl, rfl⟩
 rintro j2 a h K2 ⟨p, p0, p1, hj2, hg, rfl, rfl⟩ hK
 rcases Decidable.em (p < cnt xs) with hlt2 | hlt2
 ·obtain ⟨⟨s, l, d⟩, ht, hx⟩ := hmx p p0 hlt2
  have hg1 := fun hf => any_upto (f := overQ 4) p0 ht hf hg
  have hg2 : overQ 4 (s, l, d) = true → (xs.any (overQ 4)) = true := fun hf => any_yes (f := overQ 4) ht hf
  have ho := over_4 (s := s) (l := l) (d := d)
  generalize overQ 4 (s, l, d) = g at *
  clear hmx hg
  rcases Decidable.em (4 < cnt l) with h1 | h1
  ·rw [hg2 (ho.2 (.inl h1)), Bool.not_true, Bool.false_and] at hu
   clear hg1 hg2 hK ho
   cbv
   (repeat ((first | with_reducible refine ln fun _ _ _ => ?_ | refine tt ?_ | refine ff ?_ | with_reducible refine wr fun _ _ => ?_ | refine rp fun _ _ _ => ?_ | with_reducible refine bq ?_ | refine cl ?_ | refine sd ?_); cbv))
   refine el ?_ (by omega) hx
   cbv
   (repeat ((first | with_reducible refine ln fun _ _ _ => ?_ | refine tt ?_ | refine ff ?_ | with_reducible refine wr fun _ _ => ?_ | refine rp fun _ _ _ => ?_ | with_reducible refine bq ?_ | refine cl ?_ | refine sd ?_); cbv))
   exact hu.symm
  rcases Decidable.em (4 < cnt d) with h2 | h2
  ·rw [hg2 (ho.2 (.inr h2)), Bool.not_true, Bool.false_and] at hu
   clear hg1 hg2 hK ho
   cbv
   (repeat ((first | with_reducible refine ln fun _ _ _ => ?_ | refine tt ?_ | refine ff ?_ | with_reducible refine wr fun _ _ => ?_ | refine rp fun _ _ _ => ?_ | with_reducible refine bq ?_ | refine cl ?_ | refine sd ?_); cbv))
   refine el ?_ (by omega) hx
   cbv
   (repeat ((first | with_reducible refine ln fun _ _ _ => ?_ | refine tt ?_ | refine ff ?_ | with_reducible refine wr fun _ _ => ?_ | refine rp fun _ _ _ => ?_ | with_reducible refine bq ?_ | refine cl ?_ | refine sd ?_); cbv))
   refine el ?_ (by omega) hx
   cbv
   (repeat ((first | with_reducible refine ln fun _ _ _ => ?_ | refine tt ?_ | refine ff ?_ | with_reducible refine wr fun _ _ => ?_ | refine rp fun _ _ _ => ?_ | with_reducible refine bq ?_ | refine cl ?_ | refine sd ?_); cbv))
   exact hu.symm
  ·have hg1 := hg1 (by cases g; rfl; exact absurd (ho.1 rfl) (by omega))
   clear hg2 ho
   cbv
   (repeat ((first | with_reducible refine ln fun _ _ _ => ?_ | refine tt ?_ | refine ff ?_ | with_reducible refine wr fun _ _ => ?_ | refine rp fun _ _ _ => ?_ | with_reducible refine bq ?_ | refine cl ?_ | refine sd ?_); cbv))
   refine el ?_ (by omega) hx
   cbv
   (repeat ((first | with_reducible refine ln fun _ _ _ => ?_ | refine tt ?_ | refine ff ?_ | with_reducible refine wr fun _ _ => ?_ | refine rp fun _ _ _ => ?_ | with_reducible refine bq ?_ | refine cl ?_ | refine sd ?_); cbv))
   refine el ?_ (by omega) hx
   cbv
   (repeat ((first | with_reducible refine ln fun _ _ _ => ?_ | refine tt ?_ | refine ff ?_ | with_reducible refine wr fun _ _ => ?_ | refine rp fun _ _ _ => ?_ | with_reducible refine bq ?_ | refine cl ?_ | refine sd ?_); cbv))
   rename_i i' hi'
   refine lets [0, 1, 6] ?_
   exact hK (cnt xs - (p + 1)).toNat _ _ (by omega) ⟨p + 1, by omega, by omega, rfl, hg1, by rw [hi']; rfl, rfl⟩
 ·rw [any_no (f := overQ 4) fun x t hx => hg x t (by omega), Bool.not_false, Bool.true_and] at hu
  clear hg hmx hK
  cbv
  rcases Decidable.em (cnt c ≤ 60) with h5 | h5
  ·rw [decide_eq_true h5] at hu
   (repeat ((first | with_reducible refine ln fun _ _ _ => ?_ | refine tt ?_ | refine ff ?_ | with_reducible refine wr fun _ _ => ?_ | refine rp fun _ _ _ => ?_ | with_reducible refine bq ?_ | refine cl ?_ | refine sd ?_); cbv)); exact hu.symm
  ·rw [decide_eq_false h5] at hu
   (repeat ((first | with_reducible refine ln fun _ _ _ => ?_ | refine tt ?_ | refine ff ?_ | with_reducible refine wr fun _ _ => ?_ | refine rp fun _ _ _ => ?_ | with_reducible refine bq ?_ | refine cl ?_ | refine sd ?_); cbv)); exact hu.symm
theorem ownNatR {l : List Int} (h : cnt l ≤ 1000000) : steelyardkeep_OwnNat.R [.l l] (.l l) := ⟨l, l, rfl, by unfold steelyardkeep_OwnNat.f; unfold cnt at h; simp; omega, rfl⟩
def ownIR (us : List U) (u : U) : Prop := ∃ s l, cnt l ≤ 1000000 ∧ us = [.agg [ub s, .l l]] ∧ u = .agg [ub s, .l l]
theorem ownI_ok : SoundF Tryz.prog 55 ownIR := sound [(56, steelyardkeep_OwnNat.R)] (orc_cons steelyardkeep_OwnNat.sound orc_nil) Tryz.func55 (by kernel_rfl) (by kernel_rfl) fun us u hR => ⟨0, fun C E hC => by
 obtain ⟨s, l, h, rfl, hu⟩ := hR
 have k1 := hC 56 steelyardkeep_OwnNat.R (by simp) _ _ (ownNatR h)
 cbv; (repeat ((first | with_reducible refine ln fun _ _ _ => ?_ | refine tt ?_ | refine ff ?_ | with_reducible refine wr fun _ _ => ?_ | refine rp fun _ _ _ => ?_ | with_reducible refine bq ?_ | refine cl ?_ | refine sd ?_); cbv)); exact hu.symm⟩
def ownQR (us : List U) (u : U) : Prop := ∃ q : R3, cnt q.2.1 ≤ 1000000 ∧ cnt q.2.2 ≤ 1000000 ∧ us = [uR q] ∧ u = uR q
theorem ownQ_ok : SoundF Tryz.prog 33 ownQR := sound [(55, ownIR), (56, steelyardkeep_OwnNat.R)] (orc_cons ownI_ok (orc_cons steelyardkeep_OwnNat.sound orc_nil)) Tryz.func33 (by kernel_rfl) (by kernel_rfl) fun us u hR => ⟨0, fun C E hC => by
 obtain ⟨⟨s, l, d⟩, h, h', rfl, hu⟩ := hR
 have k1 := hC 55 ownIR (by simp) _ _ ⟨s, l, h, rfl, rfl⟩
 have k2 := hC 56 steelyardkeep_OwnNat.R (by simp) _ _ (ownNatR h')
 cbv; (repeat ((first | with_reducible refine ln fun _ _ _ => ?_ | refine tt ?_ | refine ff ?_ | with_reducible refine wr fun _ _ => ?_ | refine rp fun _ _ _ => ?_ | with_reducible refine bq ?_ | refine cl ?_ | refine sd ?_); cbv)); exact hu.symm⟩
theorem take_row {row ws zs rest : Rows} {z : List U} {l : Int} (hl : l = cnt ws) (hr : row.take l.toNat = ws) (hz : zs = row.take l.toNat ++ [z] ++ rest) : zs.take (l + 1).toNat = ws ++ [z] := by
 rw [hz, hr]
 have : (l + 1).toNat = (ws ++ [z]).length := by
  rw [List.length_append, hl]
  unfold cnt
  simp
 rw [this, List.take_left]
theorem take_next {α : Type} {cs : List α} {q : Int} {z : α} (h0 : 0 ≤ q) (h : cs[q.toNat]? = some z) : cs.take (q + 1).toNat = cs.take q.toNat ++ [z] := by
 rw [show (q + 1).toNat = q.toNat + 1 by omega, List.take_add_one, h]
 rfl
theorem cnt_take {α : Type} {cs : List α} {q : Int} (h0 : 0 ≤ q) (h1 : q ≤ cnt cs) : cnt (cs.take q.toNat) = q := by
 unfold cnt at *
 rw [List.length_take]
 omega
theorem LR_none : LR none3 := ⟨Limbs.nil, Limbs.nil, by decide, by decide⟩
theorem LR_lim (q : Rat) : LR (to3 (lim q)) := by
 unfold lim
 split
 ·rename_i h
  exact LR_ratOf h
 ·exact LR_none
theorem LR_ev (vs xs : List R3) (t : Tm) : LR (to3 (evT vs xs t)) := by
 unfold evT addS subS mulS divS powS
 repeat' split
 all_goals first | exact LR_lim _ | exact LR_neg | exact LR_none
theorem LR_evN (c : List Tm) (xs : List R3) (nd : List Bool) : ∀ i, ∀ a ∈ (evN c xs nd i).1, LR a
 | 0, a, h => by
  rw [(List.mem_replicate.1 h).2]
  exact LR_none
 | i + 1, a, h => by
  unfold evN evStep at h
  repeat' split at h
  ·rcases List.mem_or_eq_of_mem_set h with h | h
   ·exact LR_evN c xs nd i a h
   ·rw [h]
    exact LR_ev _ _ _
  all_goals exact LR_evN c xs nd i a h
theorem LR_of (c : List Tm) (i : Int) (xs : List R3) : LR (to3 (ofS c i xs)) := by
 unfold ofS
 split
 ·split
  ·show LR (at3 _ i)
   unfold at3
   cases e : (evN c xs (needs c i.toNat) (i.toNat + 1)).1[i.toNat]? with
   | none => exact LR_none
   | some a => exact LR_evN _ _ _ _ a (List.mem_of_getElem? e)
  ·exact LR_none
 ·exact LR_none
def TermP (k a b n : Int) (s : Bool) (cl cd : Int) (g : Bool) (i : Int) : Prop :=
  (k = 1 ∧ a = 0 ∧ b = 0 ∧ n = 0 ∧ g = true) ∨ (k ≠ 1 ∧ s = false ∧ cl = 0 ∧ cd = 0 ∧
    ((k = 2 ∧ a = 0 ∧ b = 0 ∧ 0 ≤ n) ∨ (k = 7 ∧ b = 0 ∧ n = 0 ∧ 0 ≤ a ∧ a < i) ∨ (k = 8 ∧ b = 0 ∧ 0 ≤ a ∧ a < i ∧ -128 ≤ n ∧ n ≤ 128) ∨
     (twoB k = true ∧ n = 0 ∧ 0 ≤ a ∧ a < i ∧ 0 ≤ b ∧ b < i)))
theorem termOk_iff {t : Tm} {i : Int} : termOk t i = true ↔ TermP t.k t.a t.b t.n t.q.1 (cnt t.q.2.1) (cnt t.q.2.2) (goodB t.q) i := by
  obtain ⟨k, a, b, n, s, l, d⟩ := t
  unfold termOk noneB kid TermP twoB
  dsimp only
  generalize goodB (s, l, d) = g
  generalize cnt l = cl
  generalize cnt d = cd
  by_cases h1 : k = 1
  · subst h1
    simp [and_assoc]
  rw [if_neg h1]
  by_cases h2 : k = 2
  · subst h2
    cases s <;> simp [and_assoc]
  rw [if_neg h2]
  by_cases h7 : k = 7
  · subst h7
    cases s <;> simp [and_assoc]
  rw [if_neg h7]
  by_cases h8 : k = 8
  · subst h8
    cases s <;> simp [and_assoc]
  rw [if_neg h8]
  by_cases h9 : k = 3 ∨ k = 4 ∨ k = 5 ∨ k = 6
  · rw [if_pos h9]
    cases s <;> simp [h1, h2, h7, h8, h9, and_assoc]
  · rw [if_neg h9]
    cases s <;> simp [h1, h2, h7, h8, h9]
theorem good19_ok : SoundF Tryz.prog 41 cgoodR := sound [(44, goodR), (28, isTwoR)] (orc_cons good7_ok (orc_cons two_ok orc_nil)) Tryz.func41 (by kernel_rfl) (by kernel_rfl) fun us u hR => by
  obtain ⟨c, hq, hn, rfl, hu⟩ := hR
  obtain ⟨r, hr⟩ : ∃ r, (cnt c).toNat < r := ⟨_, Nat.lt_succ_self _⟩
  refine ⟨r, fun C E hC => ?_⟩
  have kt : ∀ (i : Int) t, c[i.toNat]? = some t → C 44 [.agg [ub t.q.1, .l t.q.2.1, .l t.q.2.2]] (ub (goodB t.q)) := fun i t ht => hC 44 goodR (by simp) _ _ ⟨t.q, hq t (List.mem_of_getElem? ht), rfl, rfl⟩
  have k2 : ∀ k : Int, C 28 [ui k] (ub (twoB k)) := fun k => hC 28 isTwoR (by simp) _ _ ⟨k, rfl, rfl⟩
  have hm := fun i (h0 : 0 ≤ i) (h1 : i < cnt c) => nth_map (c := c) tU h0 h1
  have hc := cnt_map c tU
  have hc0 := cnt0 c
  unfold cU
  generalize c.map tU = xs at *
  cbv
  (repeat ((first | with_reducible refine ln fun _ _ _ => ?_ | refine tt ?_ | refine ff ?_ | with_reducible refine wr fun _ _ => ?_ | refine rp fun _ _ _ => ?_ | with_reducible refine bq ?_ | refine cl ?_ | refine sd ?_); cbv))
  refine lets [0, 3] ?_
  cbv
  refine loop_inv (fun j a h => ∃ i : Int, 0 ≤ i ∧ i ≤ cnt c ∧ j = (cnt c - i).toNat ∧ (∀ (x : Nat) t, (x : Int) < i → c[x]? = some t → termOk t x = true) ∧ a = [.s 7 xs, .lost, .lost, ui i, .lost, .lost, .lost, .lost, .lost, .lost, .lost, .lost, .lost, .lost, .lost, .lost, .lost, .lost, .lost, .lost, .lost, .lost, .lost, .lost, .lost, .lost, .lost, .lost, .lost, .lost, .lost, .lost, .lost, .lost, .lost, .lost, .lost, .lost, .lost, .lost, .lost, .lost, .lost, .lost, .lost, .lost, .lost, .lost, .lost, .lost, .lost, .lost, .lost, .lost, .lost, .lost, .lost, .lost, .lost, .lost, .lost, .lost, .lost, .lost, .lost, .lost, .lost, .lost, .lost, .lost, .lost, .lost, .lost, .lost, .lost, .lost, .lost, .lost, .lost, .lost, .lost, .lost, .lost, .lost, .lost, .lost, .lost, .lost, .lost, .lost, .lost, .lost, .lost, .lost, .lost, .lost, .lost, .lost, .lost, .lost, .lost, .lost, .lost, .lost, .lost, .lost, .lost, .lost, .lost, .lost, .lost, .lost, .lost, .lost, .lost, .lost, .lost, .lost, .lost, .lost, .lost, .lost, .lost, .lost, .lost, .lost, .lost, .lost, .lost, .lost, .lost, .lost, .lost, .lost, .lost, .lost, .lost, .lost, .lost, .lost, .lost, .lost, .lost, .lost, .lost, .lost, .lost, .lost, .lost, .lost, .lost] ∧ h = []) ?_ r (cnt c).toNat _ _ hr ⟨0, by omega, by omega, by omega, fun x t hx _ => absurd hx (by omega), rfl, rfl⟩
  rintro j a h K ⟨i, h0, h1, hj, hg, rfl, rfl⟩ hK
  rcases Decidable.em (i < cnt c) with hlt | hlt
  · obtain ⟨t, ht, hx⟩ := hm i h0 hlt
    have k1 := kt i t ht
    have hT : termOk t i = true → ∀ (x : Nat) t, (x : Int) < i + 1 → c[x]? = some t → termOk t x = true := fun hb x t' hlx hx' => by
      by_cases e : (x : Int) = i
      · have : x = i.toNat := by omega
        rw [this, ht] at hx'
        injection hx' with hx'
        rw [← hx', e]
        exact hb
      · exact hg x t' (by omega) hx'
    have hF : ¬ termOk t i = true → goodC c = false := fun hb => by
      rw [Bool.eq_false_iff]
      intro hh
      have := goodC_iff.1 hh i.toNat t ht
      rw [show ((i.toNat : Nat) : Int) = i by omega] at this
      exact hb this
    rw [termOk_iff] at hT hF
    obtain ⟨kd, ta, tb, m, s, l, d⟩ := t
    have k3 := k2 kd
    dsimp only at hT hF k1
    unfold TermP at hT hF
    have htw : twoB kd = true → kd ≠ 1 ∧ kd ≠ 2 ∧ kd ≠ 7 ∧ kd ≠ 8 := fun h => by
      unfold twoB at h
      have := of_decide_eq_true h
      omega
    generalize goodB (s, l, d) = g at *
    generalize twoB kd = tw at *
    clear kt k2 hm hg ht hq
    have l0 := cnt0 l
    have d0 := cnt0 d
    cbv
    (repeat ((first | with_reducible refine ln fun _ _ _ => ?_ | refine tt ?_ | refine ff ?_ | with_reducible refine wr fun _ _ => ?_ | refine rp fun _ _ _ => ?_ | with_reducible refine bq ?_ | refine cl ?_ | refine sd ?_); cbv))
    refine el ?_ (by omega) hx
    cbv
    rcases Decidable.em (ta < 0) with z1 | z1
    · rw [hF (by rintro (⟨h1, h2, h3, h4, h5⟩ | ⟨h1, h2, h3, h4, h | h | h | h⟩) <;> first | omega | (cases h5; done) | (cases h2; done) | (cases h.1; done) | (have := htw h.1; omega))] at hu
      clear hF hT hK
      (repeat ((first | with_reducible refine ln fun _ _ _ => ?_ | refine tt ?_ | refine ff ?_ | with_reducible refine wr fun _ _ => ?_ | refine rp fun _ _ _ => ?_ | with_reducible refine bq ?_ | refine cl ?_ | refine sd ?_); cbv))
      exact hu.symm
    rcases Decidable.em (tb < 0) with z2 | z2
    · rw [hF (by rintro (⟨h1, h2, h3, h4, h5⟩ | ⟨h1, h2, h3, h4, h | h | h | h⟩) <;> first | omega | (cases h5; done) | (cases h2; done) | (cases h.1; done) | (have := htw h.1; omega))] at hu
      clear hF hT hK
      (repeat ((first | with_reducible refine ln fun _ _ _ => ?_ | refine tt ?_ | refine ff ?_ | with_reducible refine wr fun _ _ => ?_ | refine rp fun _ _ _ => ?_ | with_reducible refine bq ?_ | refine cl ?_ | refine sd ?_); cbv))
      exact hu.symm
    rcases Decidable.em (kd = 1) with y1 | y1
    · skip
      rcases (Decidable.em (ta = 0)).symm with z3 | z3
      · rw [hF (by rintro (⟨h1, h2, h3, h4, h5⟩ | ⟨h1, h2, h3, h4, h | h | h | h⟩) <;> first | omega | (cases h5; done) | (cases h2; done) | (cases h.1; done) | (have := htw h.1; omega))] at hu
        clear hF hT hK
        (repeat ((first | with_reducible refine ln fun _ _ _ => ?_ | refine tt ?_ | refine ff ?_ | with_reducible refine wr fun _ _ => ?_ | refine rp fun _ _ _ => ?_ | with_reducible refine bq ?_ | refine cl ?_ | refine sd ?_); cbv))
        exact hu.symm
      rcases (Decidable.em (tb = 0)).symm with z4 | z4
      · rw [hF (by rintro (⟨h1, h2, h3, h4, h5⟩ | ⟨h1, h2, h3, h4, h | h | h | h⟩) <;> first | omega | (cases h5; done) | (cases h2; done) | (cases h.1; done) | (have := htw h.1; omega))] at hu
        clear hF hT hK
        (repeat ((first | with_reducible refine ln fun _ _ _ => ?_ | refine tt ?_ | refine ff ?_ | with_reducible refine wr fun _ _ => ?_ | refine rp fun _ _ _ => ?_ | with_reducible refine bq ?_ | refine cl ?_ | refine sd ?_); cbv))
        exact hu.symm
      rcases (Decidable.em (m = 0)).symm with z5 | z5
      · rw [hF (by rintro (⟨h1, h2, h3, h4, h5⟩ | ⟨h1, h2, h3, h4, h | h | h | h⟩) <;> first | omega | (cases h5; done) | (cases h2; done) | (cases h.1; done) | (have := htw h.1; omega))] at hu
        clear hF hT hK
        (repeat ((first | with_reducible refine ln fun _ _ _ => ?_ | refine tt ?_ | refine ff ?_ | with_reducible refine wr fun _ _ => ?_ | refine rp fun _ _ _ => ?_ | with_reducible refine bq ?_ | refine cl ?_ | refine sd ?_); cbv))
        exact hu.symm
      cases g
      · rw [hF (by rintro (⟨h1, h2, h3, h4, h5⟩ | ⟨h1, h2, h3, h4, h | h | h | h⟩) <;> first | omega | (cases h5; done) | (cases h2; done) | (cases h.1; done) | (have := htw h.1; omega))] at hu
        clear hF hT hK
        (repeat ((first | with_reducible refine ln fun _ _ _ => ?_ | refine tt ?_ | refine ff ?_ | with_reducible refine wr fun _ _ => ?_ | refine rp fun _ _ _ => ?_ | with_reducible refine bq ?_ | refine cl ?_ | refine sd ?_); cbv))
        exact hu.symm
      have hT := hT (.inl ⟨y1, by omega, by omega, by omega, rfl⟩)
      clear hF
      (repeat ((first | with_reducible refine ln fun _ _ _ => ?_ | refine tt ?_ | refine ff ?_ | with_reducible refine wr fun _ _ => ?_ | refine rp fun _ _ _ => ?_ | with_reducible refine bq ?_ | refine cl ?_ | refine sd ?_); cbv))
      rename_i q' hq'
      refine lets [0, 3] ?_
      exact hK (cnt c - (i + 1)).toNat _ _ (by omega) ⟨i + 1, by omega, by omega, rfl, hT, by rw [hq']; rfl, rfl⟩
    cases s
    rotate_left
    · rw [hF (by rintro (⟨h1, h2, h3, h4, h5⟩ | ⟨h1, h2, h3, h4, h | h | h | h⟩) <;> first | omega | (cases h5; done) | (cases h2; done) | (cases h.1; done) | (have := htw h.1; omega))] at hu
      clear hF hT hK
      (repeat ((first | with_reducible refine ln fun _ _ _ => ?_ | refine tt ?_ | refine ff ?_ | with_reducible refine wr fun _ _ => ?_ | refine rp fun _ _ _ => ?_ | with_reducible refine bq ?_ | refine cl ?_ | refine sd ?_); cbv))
      exact hu.symm
    rcases (Decidable.em (cnt l = 0)).symm with z6 | z6
    · rw [hF (by rintro (⟨h1, h2, h3, h4, h5⟩ | ⟨h1, h2, h3, h4, h | h | h | h⟩) <;> first | omega | (cases h5; done) | (cases h2; done) | (cases h.1; done) | (have := htw h.1; omega))] at hu
      clear hF hT hK
      (repeat ((first | with_reducible refine ln fun _ _ _ => ?_ | refine tt ?_ | refine ff ?_ | with_reducible refine wr fun _ _ => ?_ | refine rp fun _ _ _ => ?_ | with_reducible refine bq ?_ | refine cl ?_ | refine sd ?_); cbv))
      exact hu.symm
    rcases (Decidable.em (cnt d = 0)).symm with z7 | z7
    · rw [hF (by rintro (⟨h1, h2, h3, h4, h5⟩ | ⟨h1, h2, h3, h4, h | h | h | h⟩) <;> first | omega | (cases h5; done) | (cases h2; done) | (cases h.1; done) | (have := htw h.1; omega))] at hu
      clear hF hT hK
      (repeat ((first | with_reducible refine ln fun _ _ _ => ?_ | refine tt ?_ | refine ff ?_ | with_reducible refine wr fun _ _ => ?_ | refine rp fun _ _ _ => ?_ | with_reducible refine bq ?_ | refine cl ?_ | refine sd ?_); cbv))
      exact hu.symm
    rcases Decidable.em (kd = 2) with y2 | y2
    · skip
      rcases (Decidable.em (ta = 0)).symm with z8 | z8
      · rw [hF (by rintro (⟨h1, h2, h3, h4, h5⟩ | ⟨h1, h2, h3, h4, h | h | h | h⟩) <;> first | omega | (cases h5; done) | (cases h2; done) | (cases h.1; done) | (have := htw h.1; omega))] at hu
        clear hF hT hK
        (repeat ((first | with_reducible refine ln fun _ _ _ => ?_ | refine tt ?_ | refine ff ?_ | with_reducible refine wr fun _ _ => ?_ | refine rp fun _ _ _ => ?_ | with_reducible refine bq ?_ | refine cl ?_ | refine sd ?_); cbv))
        exact hu.symm
      rcases (Decidable.em (tb = 0)).symm with z9 | z9
      · rw [hF (by rintro (⟨h1, h2, h3, h4, h5⟩ | ⟨h1, h2, h3, h4, h | h | h | h⟩) <;> first | omega | (cases h5; done) | (cases h2; done) | (cases h.1; done) | (have := htw h.1; omega))] at hu
        clear hF hT hK
        (repeat ((first | with_reducible refine ln fun _ _ _ => ?_ | refine tt ?_ | refine ff ?_ | with_reducible refine wr fun _ _ => ?_ | refine rp fun _ _ _ => ?_ | with_reducible refine bq ?_ | refine cl ?_ | refine sd ?_); cbv))
        exact hu.symm
      rcases (Decidable.em (0 ≤ m)).symm with z10 | z10
      · rw [hF (by rintro (⟨h1, h2, h3, h4, h5⟩ | ⟨h1, h2, h3, h4, h | h | h | h⟩) <;> first | omega | (cases h5; done) | (cases h2; done) | (cases h.1; done) | (have := htw h.1; omega))] at hu
        clear hF hT hK
        (repeat ((first | with_reducible refine ln fun _ _ _ => ?_ | refine tt ?_ | refine ff ?_ | with_reducible refine wr fun _ _ => ?_ | refine rp fun _ _ _ => ?_ | with_reducible refine bq ?_ | refine cl ?_ | refine sd ?_); cbv))
        exact hu.symm
      have hT := hT (.inr ⟨y1, rfl, by omega, by omega, .inl ⟨y2, by omega, by omega, by omega⟩⟩)
      clear hF
      (repeat ((first | with_reducible refine ln fun _ _ _ => ?_ | refine tt ?_ | refine ff ?_ | with_reducible refine wr fun _ _ => ?_ | refine rp fun _ _ _ => ?_ | with_reducible refine bq ?_ | refine cl ?_ | refine sd ?_); cbv))
      rename_i q' hq'
      refine lets [0, 3] ?_
      exact hK (cnt c - (i + 1)).toNat _ _ (by omega) ⟨i + 1, by omega, by omega, rfl, hT, by rw [hq']; rfl, rfl⟩
    rcases Decidable.em (kd = 7) with y7 | y7
    · skip
      rcases (Decidable.em (ta < i)).symm with z11 | z11
      · rw [hF (by rintro (⟨h1, h2, h3, h4, h5⟩ | ⟨h1, h2, h3, h4, h | h | h | h⟩) <;> first | omega | (cases h5; done) | (cases h2; done) | (cases h.1; done) | (have := htw h.1; omega))] at hu
        clear hF hT hK
        (repeat ((first | with_reducible refine ln fun _ _ _ => ?_ | refine tt ?_ | refine ff ?_ | with_reducible refine wr fun _ _ => ?_ | refine rp fun _ _ _ => ?_ | with_reducible refine bq ?_ | refine cl ?_ | refine sd ?_); cbv))
        exact hu.symm
      rcases (Decidable.em (tb = 0)).symm with z12 | z12
      · rw [hF (by rintro (⟨h1, h2, h3, h4, h5⟩ | ⟨h1, h2, h3, h4, h | h | h | h⟩) <;> first | omega | (cases h5; done) | (cases h2; done) | (cases h.1; done) | (have := htw h.1; omega))] at hu
        clear hF hT hK
        (repeat ((first | with_reducible refine ln fun _ _ _ => ?_ | refine tt ?_ | refine ff ?_ | with_reducible refine wr fun _ _ => ?_ | refine rp fun _ _ _ => ?_ | with_reducible refine bq ?_ | refine cl ?_ | refine sd ?_); cbv))
        exact hu.symm
      rcases (Decidable.em (m = 0)).symm with z13 | z13
      · rw [hF (by rintro (⟨h1, h2, h3, h4, h5⟩ | ⟨h1, h2, h3, h4, h | h | h | h⟩) <;> first | omega | (cases h5; done) | (cases h2; done) | (cases h.1; done) | (have := htw h.1; omega))] at hu
        clear hF hT hK
        (repeat ((first | with_reducible refine ln fun _ _ _ => ?_ | refine tt ?_ | refine ff ?_ | with_reducible refine wr fun _ _ => ?_ | refine rp fun _ _ _ => ?_ | with_reducible refine bq ?_ | refine cl ?_ | refine sd ?_); cbv))
        exact hu.symm
      have hT := hT (.inr ⟨y1, rfl, by omega, by omega, .inr (.inl ⟨y7, by omega, by omega, by omega, by omega⟩)⟩)
      clear hF
      (repeat ((first | with_reducible refine ln fun _ _ _ => ?_ | refine tt ?_ | refine ff ?_ | with_reducible refine wr fun _ _ => ?_ | refine rp fun _ _ _ => ?_ | with_reducible refine bq ?_ | refine cl ?_ | refine sd ?_); cbv))
      rename_i q' hq'
      refine lets [0, 3] ?_
      exact hK (cnt c - (i + 1)).toNat _ _ (by omega) ⟨i + 1, by omega, by omega, rfl, hT, by rw [hq']; rfl, rfl⟩
    rcases Decidable.em (kd = 8) with y8 | y8
    · skip
      rcases (Decidable.em (ta < i)).symm with z14 | z14
      · rw [hF (by rintro (⟨h1, h2, h3, h4, h5⟩ | ⟨h1, h2, h3, h4, h | h | h | h⟩) <;> first | omega | (cases h5; done) | (cases h2; done) | (cases h.1; done) | (have := htw h.1; omega))] at hu
        clear hF hT hK
        (repeat ((first | with_reducible refine ln fun _ _ _ => ?_ | refine tt ?_ | refine ff ?_ | with_reducible refine wr fun _ _ => ?_ | refine rp fun _ _ _ => ?_ | with_reducible refine bq ?_ | refine cl ?_ | refine sd ?_); cbv))
        exact hu.symm
      rcases (Decidable.em (tb = 0)).symm with z15 | z15
      · rw [hF (by rintro (⟨h1, h2, h3, h4, h5⟩ | ⟨h1, h2, h3, h4, h | h | h | h⟩) <;> first | omega | (cases h5; done) | (cases h2; done) | (cases h.1; done) | (have := htw h.1; omega))] at hu
        clear hF hT hK
        (repeat ((first | with_reducible refine ln fun _ _ _ => ?_ | refine tt ?_ | refine ff ?_ | with_reducible refine wr fun _ _ => ?_ | refine rp fun _ _ _ => ?_ | with_reducible refine bq ?_ | refine cl ?_ | refine sd ?_); cbv))
        exact hu.symm
      rcases (Decidable.em (-128 ≤ m)).symm with z16 | z16
      · rw [hF (by rintro (⟨h1, h2, h3, h4, h5⟩ | ⟨h1, h2, h3, h4, h | h | h | h⟩) <;> first | omega | (cases h5; done) | (cases h2; done) | (cases h.1; done) | (have := htw h.1; omega))] at hu
        clear hF hT hK
        (repeat ((first | with_reducible refine ln fun _ _ _ => ?_ | refine tt ?_ | refine ff ?_ | with_reducible refine wr fun _ _ => ?_ | refine rp fun _ _ _ => ?_ | with_reducible refine bq ?_ | refine cl ?_ | refine sd ?_); cbv))
        exact hu.symm
      rcases (Decidable.em (m ≤ 128)).symm with z17 | z17
      · rw [hF (by rintro (⟨h1, h2, h3, h4, h5⟩ | ⟨h1, h2, h3, h4, h | h | h | h⟩) <;> first | omega | (cases h5; done) | (cases h2; done) | (cases h.1; done) | (have := htw h.1; omega))] at hu
        clear hF hT hK
        (repeat ((first | with_reducible refine ln fun _ _ _ => ?_ | refine tt ?_ | refine ff ?_ | with_reducible refine wr fun _ _ => ?_ | refine rp fun _ _ _ => ?_ | with_reducible refine bq ?_ | refine cl ?_ | refine sd ?_); cbv))
        exact hu.symm
      have hT := hT (.inr ⟨y1, rfl, by omega, by omega, .inr (.inr (.inl ⟨y8, by omega, by omega, by omega, by omega, by omega⟩))⟩)
      clear hF
      (repeat ((first | with_reducible refine ln fun _ _ _ => ?_ | refine tt ?_ | refine ff ?_ | with_reducible refine wr fun _ _ => ?_ | refine rp fun _ _ _ => ?_ | with_reducible refine bq ?_ | refine cl ?_ | refine sd ?_); cbv))
      rename_i q' hq'
      refine lets [0, 3] ?_
      exact hK (cnt c - (i + 1)).toNat _ _ (by omega) ⟨i + 1, by omega, by omega, rfl, hT, by rw [hq']; rfl, rfl⟩
    cases tw
    · rw [hF (by rintro (⟨h1, h2, h3, h4, h5⟩ | ⟨h1, h2, h3, h4, h | h | h | h⟩) <;> first | omega | (cases h5; done) | (cases h2; done) | (cases h.1; done) | (have := htw h.1; omega))] at hu
      clear hF hT hK
      (repeat ((first | with_reducible refine ln fun _ _ _ => ?_ | refine tt ?_ | refine ff ?_ | with_reducible refine wr fun _ _ => ?_ | refine rp fun _ _ _ => ?_ | with_reducible refine bq ?_ | refine cl ?_ | refine sd ?_); cbv))
      exact hu.symm
    rcases (Decidable.em (ta < i)).symm with z18 | z18
    · rw [hF (by rintro (⟨h1, h2, h3, h4, h5⟩ | ⟨h1, h2, h3, h4, h | h | h | h⟩) <;> first | omega | (cases h5; done) | (cases h2; done) | (cases h.1; done) | (have := htw h.1; omega))] at hu
      clear hF hT hK
      (repeat ((first | with_reducible refine ln fun _ _ _ => ?_ | refine tt ?_ | refine ff ?_ | with_reducible refine wr fun _ _ => ?_ | refine rp fun _ _ _ => ?_ | with_reducible refine bq ?_ | refine cl ?_ | refine sd ?_); cbv))
      exact hu.symm
    rcases (Decidable.em (tb < i)).symm with z19 | z19
    · rw [hF (by rintro (⟨h1, h2, h3, h4, h5⟩ | ⟨h1, h2, h3, h4, h | h | h | h⟩) <;> first | omega | (cases h5; done) | (cases h2; done) | (cases h.1; done) | (have := htw h.1; omega))] at hu
      clear hF hT hK
      (repeat ((first | with_reducible refine ln fun _ _ _ => ?_ | refine tt ?_ | refine ff ?_ | with_reducible refine wr fun _ _ => ?_ | refine rp fun _ _ _ => ?_ | with_reducible refine bq ?_ | refine cl ?_ | refine sd ?_); cbv))
      exact hu.symm
    rcases (Decidable.em (m = 0)).symm with z20 | z20
    · rw [hF (by rintro (⟨h1, h2, h3, h4, h5⟩ | ⟨h1, h2, h3, h4, h | h | h | h⟩) <;> first | omega | (cases h5; done) | (cases h2; done) | (cases h.1; done) | (have := htw h.1; omega))] at hu
      clear hF hT hK
      (repeat ((first | with_reducible refine ln fun _ _ _ => ?_ | refine tt ?_ | refine ff ?_ | with_reducible refine wr fun _ _ => ?_ | refine rp fun _ _ _ => ?_ | with_reducible refine bq ?_ | refine cl ?_ | refine sd ?_); cbv))
      exact hu.symm
    have hT := hT (.inr ⟨y1, rfl, by omega, by omega, .inr (.inr (.inr ⟨rfl, by omega, by omega, by omega, by omega, by omega⟩))⟩)
    clear hF
    (repeat ((first | with_reducible refine ln fun _ _ _ => ?_ | refine tt ?_ | refine ff ?_ | with_reducible refine wr fun _ _ => ?_ | refine rp fun _ _ _ => ?_ | with_reducible refine bq ?_ | refine cl ?_ | refine sd ?_); cbv))
    rename_i q' hq'
    refine lets [0, 3] ?_
    exact hK (cnt c - (i + 1)).toNat _ _ (by omega) ⟨i + 1, by omega, by omega, rfl, hT, by rw [hq']; rfl, rfl⟩
  · rw [goodC_iff.2 fun x t hx => hg x t (by have := (List.getElem?_eq_some_iff.1 hx).1; unfold cnt at h1 hlt; omega) hx] at hu
    clear hg
    cbv
    (repeat ((first | with_reducible refine ln fun _ _ _ => ?_ | refine tt ?_ | refine ff ?_ | with_reducible refine wr fun _ _ => ?_ | refine rp fun _ _ _ => ?_ | with_reducible refine bq ?_ | refine cl ?_ | refine sd ?_); cbv))
    exact hu.symm
theorem kids_none {t : Tm} (h : t.k = 1 ∨ t.k = 2) : kids t = [] := by unfold kids; rw [if_neg (by omega), if_neg (by omega)]
theorem kids_one {t : Tm} (h : t.k = 7 ∨ t.k = 8) : kids t = [t.a] := by unfold kids; rw [if_pos h]
theorem kids_two {t : Tm} (h : t.k = 3 ∨ t.k = 4 ∨ t.k = 5 ∨ t.k = 6) : kids t = [t.a, t.b] := by unfold kids; rw [if_neg (by omega), if_pos h]
theorem needs20_ok : SoundF Tryz.prog 21 needsR := sound [(41, cgoodR), (28, isTwoR)] (orc_cons good19_ok (orc_cons two_ok orc_nil)) Tryz.func21 (by kernel_rfl) (by kernel_rfl) fun us u hR => by
 obtain ⟨c, i, hq, hn, rfl, hu⟩ := hR
 obtain ⟨r, hr⟩ : ∃ r, (cnt c).toNat + 10 < r := ⟨_, Nat.lt_succ_self _⟩
 refine ⟨r, fun C E hC => ?_⟩
 have kg := hC 41 cgoodR (by simp) _ _ ⟨c, hq, by omega, rfl, rfl⟩
 have k2 : ∀ k : Int, C 28 [ui k] (ub (twoB k)) := fun k => hC 28 isTwoR (by simp) _ _ ⟨k, rfl, rfl⟩
 have hm := fun i (h0 : 0 ≤ i) (h1 : i < cnt c) => nth_map (c := c) tU h0 h1
 have hc := cnt_map c tU
 have hc0 := cnt0 c
 unfold needsU mayC at hu
 have hgood : goodC c = true → ∀ (k : Int) t, 0 ≤ k → c[k.toNat]? = some t → termOk t k = true := fun h q t h0 ht => by
  have := goodC_iff.1 h q.toNat t ht
  rwa [show (q.toNat : Int) = q by omega] at this
 clear hC hq
 unfold cU at kg ⊢
 obtain ⟨uB, huB⟩ : ∃ f : List Bool → Rows, f = Rd.uB := ⟨_, rfl⟩
 have uB_len : ∀ s, cnt (uB s) = cnt s := fun s => by rw [huB]; exact Rd.uB_len s
 have uB_nth : ∀ {s : List Bool} {k : Int}, 0 ≤ k → k < cnt s → ∃ b, s[k.toNat]? = some b ∧ (uB s)[k.toNat]? = some [ub b] := fun {s k} h0 h1 => by rw [huB]; exact Rd.uB_nth h0 h1
 have uB_set : ∀ (s : List Bool) (k : Nat) (b : Bool), (uB s).set k [ub b] = uB (s.set k b) := fun s k b => by rw [huB]; exact Rd.uB_set s k b
 rw [← huB] at hu
 generalize c.map tU = xs at *
 generalize goodC c = g at *
 cbv
 cases g
 ·rw [Bool.and_false, if_neg (by simp)] at hu
  (repeat ((first | with_reducible refine ln fun _ _ _ => ?_ | refine tt ?_ | refine ff ?_ | refine tt ?_ rfl | with_reducible refine wr fun _ _ => ?_ | refine rp fun _ _ _ => ?_ | with_reducible refine bq ?_ | refine cl ?_ | refine sd ?_); cbv)); exact hu.symm
 rcases Decidable.em (0 ≤ i) with h1 | h1
 case inr =>
  rw [decide_eq_false h1, Bool.false_and, Bool.false_and, if_neg (by simp)] at hu
  (repeat ((first | with_reducible refine ln fun _ _ _ => ?_ | refine tt ?_ | refine ff ?_ | refine tt ?_ rfl | with_reducible refine wr fun _ _ => ?_ | refine rp fun _ _ _ => ?_ | with_reducible refine bq ?_ | refine cl ?_ | refine sd ?_); cbv)); exact hu.symm
 rcases Decidable.em (i < cnt c) with h2 | h2
 case inr =>
  rw [decide_eq_false h2, Bool.and_false, Bool.false_and, if_neg (by simp)] at hu
  (repeat ((first | with_reducible refine ln fun _ _ _ => ?_ | refine tt ?_ | refine ff ?_ | refine tt ?_ rfl | with_reducible refine wr fun _ _ => ?_ | refine rp fun _ _ _ => ?_ | with_reducible refine bq ?_ | refine cl ?_ | refine sd ?_); cbv)); exact hu.symm
 rw [decide_eq_true h1, decide_eq_true h2, Bool.true_and, Bool.true_and, if_pos rfl] at hu
 have hgood := hgood rfl
 (repeat ((first | with_reducible refine ln fun _ _ _ => ?_ | refine tt ?_ | refine ff ?_ | refine tt ?_ rfl | with_reducible refine wr fun _ _ => ?_ | refine rp fun _ _ _ => ?_ | with_reducible refine bq ?_ | refine cl ?_ | refine sd ?_); cbv))
 rename_i n0 hn0 hn0' n hn hn' rs hrs hrc
 refine el (us := [ub false]) ?_ (by omega) (by rw [hrs, List.getElem?_replicate, if_pos (by omega)])
 cbv
 refine se fun ys e hyc => ?_
 have e2 : ys = uB ((List.replicate c.length false).set i.toNat true) := by
  rw [e, hrs, ← uB_set, huB]
  unfold Rd.uB
  rw [List.map_replicate]
  congr 2
  unfold cnt at hc hn
  omega
 have hnc : n = cnt c := by omega
 obtain ⟨s0, hs0⟩ : ∃ s0, s0 = (List.replicate c.length false).set i.toNat true := ⟨_, rfl⟩
 rw [← hs0] at e2
 clear e hrs hyc hrc
 subst e2
 cbv
 (repeat ((first | with_reducible refine ln fun _ _ _ => ?_ | refine tt ?_ | refine ff ?_ | refine tt ?_ rfl | with_reducible refine wr fun _ _ => ?_ | refine rp fun _ _ _ => ?_ | with_reducible refine bq ?_ | refine cl ?_ | refine sd ?_); cbv))
 refine lets [0, 5, 6] ?_
 cbv
 refine loop_inv (fun j a h => ∃ (k : Int) (s : List Bool), -1 ≤ k ∧ k ≤ i ∧ j = (k + 1).toNat ∧ cnt s = cnt c ∧ down c (k + 1).toNat s = needs c i.toNat ∧ a = [.s 7 xs, .lost, .lost, .lost, .lost, .sl 0 n n 1, ui k, .lost, .lost, .lost, .lost, .lost, .lost, .lost, .lost, .lost, .lost, .lost, .lost, .lost, .lost, .lost, .lost, .lost, .lost, .lost, .lost, .lost, .lost, .lost, .lost, .lost, .lost, .lost, .lost, .lost, .lost, .lost, .lost, .lost, .lost, .lost, .lost, .lost, .lost, .lost, .lost, .lost, .lost, .lost, .lost, .lost, .lost, .lost, .lost, .lost, .lost, .lost, .lost, .lost, .lost] ∧ h = [some (.row 1 (uB s))]) ?_ r (i + 1).toNat _ _ (by omega) ⟨i, s0, by omega, by omega, rfl, by rw [hs0]; unfold cnt; rw [List.length_set, List.length_replicate], by rw [hs0, show (i + 1).toNat = i.toNat + 1 by omega]; rfl, rfl, rfl⟩
 rintro j a h K ⟨k, s, h3, h4, hj, hsc, hd, rfl, rfl⟩ hK
 rcases Decidable.em (0 ≤ k) with h5 | h5
 ·obtain ⟨b, hb, hx⟩ := uB_nth (s := s) h5 (by omega)
  cases b
  ·rw [down_no h5 hb] at hd
   cbv
   (repeat ((first | with_reducible refine ln fun _ _ _ => ?_ | refine tt ?_ | refine ff ?_ | refine tt ?_ rfl | with_reducible refine wr fun _ _ => ?_ | refine rp fun _ _ _ => ?_ | with_reducible refine bq ?_ | refine cl ?_ | refine sd ?_); cbv))
   refine el ?_ (by omega) hx
   cbv
   (repeat ((first | with_reducible refine ln fun _ _ _ => ?_ | refine tt ?_ | refine ff ?_ | refine tt ?_ rfl | with_reducible refine wr fun _ _ => ?_ | refine rp fun _ _ _ => ?_ | with_reducible refine bq ?_ | refine cl ?_ | refine sd ?_); cbv))
   rename_i k' hk'
   refine lets [0, 5, 6] ?_
   refine hK k.toNat _ _ (by omega) ⟨k - 1, s, by omega, by omega, by omega, hsc, ?_, by rw [hk']; rfl, rfl⟩
   rw [show k - 1 + 1 = k by omega]
   exact hd
  ·obtain ⟨t, ht, hx2⟩ := hm k h5 (by omega)
   rw [down_yes h5 hb ht] at hd
   have k3 := k2 t.k
   have hco := term_cases (hgood k t h5 ht)
   have h0 := kids_none (t := t)
   have h1' := kids_one (t := t)
   have h2' := kids_two (t := t)
   obtain ⟨kd, ta, tb, tn, ts, tl, td⟩ := t
   dsimp only at hco h0 h1' h2' k3
   clear hgood hm k2 ht
   rcases hco with h | ⟨h, _⟩ | ⟨h, ha, hb2⟩ | h
   ·rw [h0 (.inl h)] at hd
    cbv
    (repeat ((first | with_reducible refine ln fun _ _ _ => ?_ | refine tt ?_ | refine ff ?_ | refine tt ?_ rfl | with_reducible refine wr fun _ _ => ?_ | refine rp fun _ _ _ => ?_ | with_reducible refine bq ?_ | refine cl ?_ | refine sd ?_); cbv))
    refine el ?_ (by omega) hx
    cbv
    (repeat ((first | with_reducible refine ln fun _ _ _ => ?_ | refine tt ?_ | refine ff ?_ | refine tt ?_ rfl | with_reducible refine wr fun _ _ => ?_ | refine rp fun _ _ _ => ?_ | with_reducible refine bq ?_ | refine cl ?_ | refine sd ?_); cbv))
    refine el ?_ (by omega) hx2
    subst h
    cbv
    (repeat ((first | with_reducible refine ln fun _ _ _ => ?_ | refine tt ?_ | refine ff ?_ | refine tt ?_ rfl | with_reducible refine wr fun _ _ => ?_ | refine rp fun _ _ _ => ?_ | with_reducible refine bq ?_ | refine cl ?_ | refine sd ?_); cbv))
    rename_i k' hk'
    refine lets [0, 5, 6] ?_
    refine hK k.toNat _ _ (by omega) ⟨k - 1, s, by omega, by omega, by omega, hsc, ?_, by rw [hk']; rfl, rfl⟩
    rw [show k - 1 + 1 = k by omega]
    exact hd
   ·rw [h0 (.inr h)] at hd
    cbv
    (repeat ((first | with_reducible refine ln fun _ _ _ => ?_ | refine tt ?_ | refine ff ?_ | refine tt ?_ rfl | with_reducible refine wr fun _ _ => ?_ | refine rp fun _ _ _ => ?_ | with_reducible refine bq ?_ | refine cl ?_ | refine sd ?_); cbv))
    refine el ?_ (by omega) hx
    cbv
    (repeat ((first | with_reducible refine ln fun _ _ _ => ?_ | refine tt ?_ | refine ff ?_ | refine tt ?_ rfl | with_reducible refine wr fun _ _ => ?_ | refine rp fun _ _ _ => ?_ | with_reducible refine bq ?_ | refine cl ?_ | refine sd ?_); cbv))
    refine el ?_ (by omega) hx2
    subst h
    cbv
    (repeat ((first | with_reducible refine ln fun _ _ _ => ?_ | refine tt ?_ | refine ff ?_ | refine tt ?_ rfl | with_reducible refine wr fun _ _ => ?_ | refine rp fun _ _ _ => ?_ | with_reducible refine bq ?_ | refine cl ?_ | refine sd ?_); cbv))
    rename_i k' hk'
    refine lets [0, 5, 6] ?_
    refine hK k.toNat _ _ (by omega) ⟨k - 1, s, by omega, by omega, by omega, hsc, ?_, by rw [hk']; rfl, rfl⟩
    rw [show k - 1 + 1 = k by omega]
    exact hd
   ·rw [h2' h] at hd
    have hd : down c k.toNat ((s.set ta.toNat true).set tb.toNat true) = needs c i.toNat := hd
    rw [show twoB kd = true by unfold twoB; exact decide_eq_true h] at k3
    obtain ⟨b1, hb1, hx3⟩ := uB_nth (s := s) (k := ta) ha.1 (by omega)
    obtain ⟨s1, hs1⟩ : ∃ s1, s1 = s.set ta.toNat true := ⟨_, rfl⟩
    have hsc1 : cnt s1 = cnt s := by rw [hs1]; unfold cnt; rw [List.length_set]
    obtain ⟨b3, hb3, hx4⟩ := uB_nth (s := s1) (k := tb) hb2.1 (by omega)
    cbv
    (repeat ((first | with_reducible refine ln fun _ _ _ => ?_ | refine tt ?_ | refine ff ?_ | refine tt ?_ rfl | with_reducible refine wr fun _ _ => ?_ | refine rp fun _ _ _ => ?_ | with_reducible refine bq ?_ | refine cl ?_ | refine sd ?_); cbv))
    refine el ?_ (by omega) hx
    cbv
    (repeat ((first | with_reducible refine ln fun _ _ _ => ?_ | refine tt ?_ | refine ff ?_ | refine tt ?_ rfl | with_reducible refine wr fun _ _ => ?_ | refine rp fun _ _ _ => ?_ | with_reducible refine bq ?_ | refine cl ?_ | refine sd ?_); cbv))
    refine el ?_ (by omega) hx2
    cbv
    (repeat ((first | with_reducible refine ln fun _ _ _ => ?_ | refine tt ?_ | refine ff ?_ | refine tt ?_ rfl | with_reducible refine wr fun _ _ => ?_ | refine rp fun _ _ _ => ?_ | with_reducible refine bq ?_ | refine cl ?_ | refine sd ?_); cbv))
    refine el ?_ (by omega) hx3
    cbv
    refine se fun ys e hyc => ?_
    have e2 : ys = uB s1 := by rw [e, hs1, ← uB_set]
    clear e hyc
    subst e2
    cbv
    (repeat ((first | with_reducible refine ln fun _ _ _ => ?_ | refine tt ?_ | refine ff ?_ | refine tt ?_ rfl | with_reducible refine wr fun _ _ => ?_ | refine rp fun _ _ _ => ?_ | with_reducible refine bq ?_ | refine cl ?_ | refine sd ?_); cbv))
    refine el ?_ (by omega) hx4
    cbv
    refine se fun ys e hyc => ?_
    obtain ⟨s2, hs2⟩ : ∃ s2, s2 = s1.set tb.toNat true := ⟨_, rfl⟩
    have e2 : ys = uB s2 := by rw [e, hs2, ← uB_set]
    have hsc2 : cnt s2 = cnt s1 := by rw [hs2]; unfold cnt; rw [List.length_set]
    clear e hyc
    subst e2
    cbv
    (repeat ((first | with_reducible refine ln fun _ _ _ => ?_ | refine tt ?_ | refine ff ?_ | refine tt ?_ rfl | with_reducible refine wr fun _ _ => ?_ | refine rp fun _ _ _ => ?_ | with_reducible refine bq ?_ | refine cl ?_ | refine sd ?_); cbv))
    rename_i k' hk'
    refine lets [0, 5, 6] ?_
    refine hK k.toNat _ _ (by omega) ⟨k - 1, s2, by omega, by omega, by omega, by omega, ?_, by rw [hk']; rfl, rfl⟩
    rw [show k - 1 + 1 = k by omega, hs2, hs1]
    exact hd
   ·have hk78 : kd = 7 ∨ kd = 8 := h.elim (fun h => .inl h.1) fun h => .inr h.1
    have ha : 0 ≤ ta ∧ ta < k := h.elim (fun h => h.2) fun h => h.2.1
    rw [h1' hk78] at hd
    have hd : down c k.toNat (s.set ta.toNat true) = needs c i.toNat := hd
    rw [show twoB kd = false by unfold twoB; exact decide_eq_false (by omega)] at k3
    obtain ⟨b1, hb1, hx3⟩ := uB_nth (s := s) (k := ta) ha.1 (by omega)
    clear h
    cbv
    (repeat ((first | with_reducible refine ln fun _ _ _ => ?_ | refine tt ?_ | refine ff ?_ | refine tt ?_ rfl | with_reducible refine wr fun _ _ => ?_ | refine rp fun _ _ _ => ?_ | with_reducible refine bq ?_ | refine cl ?_ | refine sd ?_); cbv))
    refine el ?_ (by omega) hx
    cbv
    (repeat ((first | with_reducible refine ln fun _ _ _ => ?_ | refine tt ?_ | refine ff ?_ | refine tt ?_ rfl | with_reducible refine wr fun _ _ => ?_ | refine rp fun _ _ _ => ?_ | with_reducible refine bq ?_ | refine cl ?_ | refine sd ?_); cbv))
    refine el ?_ (by omega) hx2
    cbv
    (repeat ((first | with_reducible refine ln fun _ _ _ => ?_ | refine tt ?_ | refine ff ?_ | refine tt ?_ rfl | with_reducible refine wr fun _ _ => ?_ | refine rp fun _ _ _ => ?_ | with_reducible refine bq ?_ | refine cl ?_ | refine sd ?_); cbv))
    refine el ?_ (by omega) hx3
    cbv
    refine se fun ys e hyc => ?_
    obtain ⟨s1, hs1⟩ : ∃ s1, s1 = s.set ta.toNat true := ⟨_, rfl⟩
    have e2 : ys = uB s1 := by rw [e, hs1, ← uB_set]
    have hsc1 : cnt s1 = cnt s := by rw [hs1]; unfold cnt; rw [List.length_set]
    clear e hyc
    subst e2
    cbv
    (repeat ((first | with_reducible refine ln fun _ _ _ => ?_ | refine tt ?_ | refine ff ?_ | refine tt ?_ rfl | with_reducible refine wr fun _ _ => ?_ | refine rp fun _ _ _ => ?_ | with_reducible refine bq ?_ | refine cl ?_ | refine sd ?_); cbv))
    rename_i k' hk'
    refine lets [0, 5, 6] ?_
    refine hK k.toNat _ _ (by omega) ⟨k - 1, s1, by omega, by omega, by omega, by omega, ?_, by rw [hk']; rfl, rfl⟩
    rw [show k - 1 + 1 = k by omega, hs1]
    exact hd
 ·rw [show (k + 1).toNat = 0 by omega] at hd
  unfold down at hd
  have hsl := uB_len s
  rw [← hd] at hu
  cbv
  (repeat ((first | refine ln fun _ _ _ => ?_ | refine tt ?_ | refine ff ?_ | refine wr fun _ _ => ?_ | refine rp fun _ _ _ => ?_ | with_reducible refine bq ?_ | refine cl ?_ | refine sd ?_ | intro _ _); cbv))
  rename_i ys e
  rw [hu, e, List.take_of_length_le (by unfold cnt at *; omega)]
def mayR (us : List U) (u : U) : Prop := ∃ c i xs, (∀ t ∈ c, LB t.q) ∧ cnt c ≤ 1000000 ∧ (∀ a ∈ xs, LB a) ∧ cnt xs ≤ 1000000 ∧ us = [cU c, ui i, qsU xs] ∧ u = ub (madeB c i xs)
theorem may_ok : SoundF Tryz.prog 25 mayR := sound [(21, needsR), (44, goodR)] (orc_cons needs20_ok (orc_cons good7_ok orc_nil)) Tryz.func25 (by kernel_rfl) (by kernel_rfl) fun us u hR => by
 obtain ⟨c, i, xs, hq, hn, hx, hxn, rfl, hu⟩ := hR
 obtain ⟨r, hr⟩ : ∃ r, (cnt c).toNat + (cnt xs).toNat + 10 < r := ⟨_, Nat.lt_succ_self _⟩
 refine ⟨r, fun C E hC => ?_⟩
 have k1 := hC 21 needsR (by simp) _ _ ⟨c, i, hq, hn, rfl, rfl⟩
 have kg : ∀ (j : Int) a, xs[j.toNat]? = some a → C 44 [.agg (qU a)] (ub (goodB a)) := fun j a ha => hC 44 goodR (by simp) _ _ ⟨a, hx a (List.mem_of_getElem? ha), rfl, rfl⟩
 have hcn := fun i (h0 : 0 ≤ i) (h1 : i < cnt c) => nth_map (c := c) tU h0 h1
 have hxm := fun i (h0 : 0 ≤ i) (h1 : i < cnt xs) => nth_map (c := xs) qU h0 h1
 have hc := cnt_map c tU
 have hxc := cnt_map xs qU
 have hc0 := cnt0 c
 have hx0 := cnt0 xs
 have hnl := needs_len c i.toNat
 have hle := fun (h : mayC c i = true) (j : Nat) => needs_le (c := c) (ahead_of (by unfold mayC at h; simp only [Bool.and_eq_true] at h; exact h.2)) (i := i.toNat) (j := j)
 unfold madeB at hu
 unfold needsU at k1
 clear hC hx hq
 unfold cU qsU at *
 generalize c.map tU = cs at *
 generalize xs.map qU = ys at *
 have hmay : mayC c i = true → 0 ≤ i ∧ i < cnt c := fun h => by
  unfold mayC at h
  simp only [Bool.and_eq_true, decide_eq_true_eq] at h
  exact h.1
 cases hmc : mayC c i
 ·rw [hmc, if_neg (by simp)] at k1
  rw [hmc, Bool.false_and, Bool.false_and] at hu
  clear hle kg
  cbv
  (repeat ((first | with_reducible refine ln fun _ _ _ => ?_ | refine tt ?_ | refine ff ?_ | refine tt ?_ rfl | with_reducible refine wr fun _ _ => ?_ | refine rp fun _ _ _ => ?_ | with_reducible refine bq ?_ | refine cl ?_ | refine sd ?_); cbv))
  exact hu.symm
 rw [hmc, if_pos rfl] at k1
 rw [hmc, Bool.true_and] at hu
 have hle := hle hmc
 obtain ⟨hi0, hi1⟩ := hmay hmc
 clear hmay hmc
 generalize needs c i.toNat = nd at *
 have hnx := fun j (h0 : 0 ≤ j) (h1 : j < cnt nd) => uB_nth (s := nd) h0 h1
 have hnc := uB_len nd
 generalize uB nd = nds at *
 cbv
 (repeat ((first | with_reducible refine ln fun _ _ _ => ?_ | refine tt ?_ | refine ff ?_ | refine tt ?_ rfl | with_reducible refine wr fun _ _ => ?_ | refine rp fun _ _ _ => ?_ | with_reducible refine bq ?_ | refine cl ?_ | refine sd ?_); cbv))
 refine lets [0, 1, 2, 7, 8] ?_
 cbv
 refine loop_inv (fun j a h => ∃ q : Int, 0 ≤ q ∧ q ≤ cnt xs ∧ j = (cnt xs - q).toNat ∧ (∀ (p : Nat) z, (p : Int) < q → xs[p]? = some z → goodB z = true) ∧ a = [.s 7 cs, ui i, .s 3 ys, .lost, .lost, .lost, .lost, .s 1 nds, ui q, .lost, .lost, .lost, .lost, .lost, .lost, .lost, .lost, .lost, .lost, .lost, .lost, .lost, .lost, .lost, .lost, .lost, .lost, .lost, .lost, .lost, .lost, .lost, .lost, .lost, .lost, .lost, .lost, .lost, .lost, .lost, .lost, .lost, .lost, .lost, .lost, .lost, .lost, .lost, .lost, .lost, .lost, .lost, .lost, .lost, .lost] ∧ h = []) ?_ r (cnt xs).toNat _ _ (by omega) ⟨0, by omega, by omega, by omega, fun p z hp _ => absurd hp (by omega), rfl, rfl⟩
 rintro j a h K ⟨q, q0, q1, hj, hg, rfl, rfl⟩ hK
 rcases Decidable.em (q < cnt xs) with hlt | hlt
 ·obtain ⟨⟨s, l, d⟩, hz, hy⟩ := hxm q q0 hlt
  have k2 := kg q _ hz
  have hg' : goodB (s, l, d) = true → ∀ (p : Nat) z, (p : Int) < q + 1 → xs[p]? = some z → goodB z = true := fun hb p z hp hz' => by
   by_cases e : (p : Int) = q
   ·rw [show p = q.toNat by omega, hz] at hz'
    injection hz' with hz'
    rw [← hz']
    exact hb
   ·exact hg p z (by omega) hz'
  have hg2 : goodB (s, l, d) = false → xs.all goodB = false := fun hb => by
   rw [Bool.eq_false_iff, Ne, List.all_eq_true]
   intro hh
   rw [hh _ (List.mem_of_getElem? hz)] at hb
   cases hb
  generalize goodB (s, l, d) = g at k2 hg' hg2
  cases g
  ·rw [hg2 rfl, Bool.false_and] at hu
   clear hg' hg2 hg
   cbv
   (repeat ((first | with_reducible refine ln fun _ _ _ => ?_ | refine tt ?_ | refine ff ?_ | refine tt ?_ rfl | with_reducible refine wr fun _ _ => ?_ | refine rp fun _ _ _ => ?_ | with_reducible refine bq ?_ | refine cl ?_ | refine sd ?_); cbv))
   refine el ?_ (by omega) hy
   cbv
   (repeat ((first | with_reducible refine ln fun _ _ _ => ?_ | refine tt ?_ | refine ff ?_ | refine tt ?_ rfl | with_reducible refine wr fun _ _ => ?_ | refine rp fun _ _ _ => ?_ | with_reducible refine bq ?_ | refine cl ?_ | refine sd ?_); cbv))
   exact hu.symm
  ·clear hg2
   cbv
   (repeat ((first | with_reducible refine ln fun _ _ _ => ?_ | refine tt ?_ | refine ff ?_ | refine tt ?_ rfl | with_reducible refine wr fun _ _ => ?_ | refine rp fun _ _ _ => ?_ | with_reducible refine bq ?_ | refine cl ?_ | refine sd ?_); cbv))
   refine el ?_ (by omega) hy
   cbv
   (repeat ((first | with_reducible refine ln fun _ _ _ => ?_ | refine tt ?_ | refine ff ?_ | refine tt ?_ rfl | with_reducible refine wr fun _ _ => ?_ | refine rp fun _ _ _ => ?_ | with_reducible refine bq ?_ | refine cl ?_ | refine sd ?_); cbv))
   rename_i q' hq'
   refine lets [0, 1, 2, 7, 8] ?_
   exact hK (cnt xs - (q + 1)).toNat _ _ (by omega) ⟨q + 1, by omega, by omega, rfl, hg' rfl, by rw [hq']; rfl, rfl⟩
 have hall : xs.all goodB = true := List.all_eq_true.2 fun z hz => by
  obtain ⟨p, hp, rfl⟩ := List.mem_iff_getElem.1 hz
  exact hg p _ (by unfold cnt at hlt; omega) (List.getElem?_eq_getElem hp)
 rw [hall, Bool.true_and] at hu
 clear hg hall kg hxm
 cbv
 (repeat ((first | with_reducible refine ln fun _ _ _ => ?_ | refine tt ?_ | refine ff ?_ | refine tt ?_ rfl | with_reducible refine wr fun _ _ => ?_ | refine rp fun _ _ _ => ?_ | with_reducible refine bq ?_ | refine cl ?_ | refine sd ?_); cbv))
 refine lets [0, 1, 2, 7, 9] ?_
 cbv
 refine loop_inv (fun j a h => ∃ q : Int, 0 ≤ q ∧ q ≤ i + 1 ∧ j = (i + 1 - q).toNat ∧ (∀ (p : Nat) t, (p : Int) < q → c[p]? = some t → nd[p]? = some true → t.k = 2 → t.n < cnt xs) ∧ a = [.s 7 cs, ui i, .s 3 ys, .lost, .lost, .lost, .lost, .s 1 nds, .lost, ui q, .lost, .lost, .lost, .lost, .lost, .lost, .lost, .lost, .lost, .lost, .lost, .lost, .lost, .lost, .lost, .lost, .lost, .lost, .lost, .lost, .lost, .lost, .lost, .lost, .lost, .lost, .lost, .lost, .lost, .lost, .lost, .lost, .lost, .lost, .lost, .lost, .lost, .lost, .lost, .lost, .lost, .lost, .lost, .lost, .lost] ∧ h = []) ?_ r (i + 1).toNat _ _ (by omega) ⟨0, by omega, by omega, by omega, fun p z hp _ => absurd hp (by omega), rfl, rfl⟩
 rintro j2 a h K2 ⟨q, q0, q1, hj2, hg, rfl, rfl⟩ hK2
 clear hK
 rcases Decidable.em (q ≤ i) with hlt | hlt
 ·obtain ⟨⟨kd, ta, tb, m, s, l, d⟩, ht, hy⟩ := hcn q q0 (by omega)
  obtain ⟨b, hb, hz⟩ := hnx q q0 (by omega)
  have hg' : (b = true → kd = 2 → m < cnt xs) → ∀ (p : Nat) t, (p : Int) < q + 1 → c[p]? = some t → nd[p]? = some true → t.k = 2 → t.n < cnt xs := fun hh p t hp ht' hb' hk => by
   by_cases e : (p : Int) = q
   ·have : p = q.toNat := by omega
    subst this
    rw [ht] at ht'
    injection ht' with ht'
    subst ht'
    rw [hb] at hb'
    injection hb' with hb'
    exact hh hb' hk
   ·exact hg p t (by omega) ht' hb' hk
  have hg2 : b = true → kd = 2 → ¬ m < cnt xs → refsB c nd (cnt xs) = false := fun e1 e2 e3 => by
   rw [Bool.eq_false_iff]
   intro hh
   exact e3 (refs_iff.1 hh q.toNat _ ht (by rw [hb, e1]) e2)
  clear hg hcn hnx ht hb hle
  cbv
  (repeat ((first | with_reducible refine ln fun _ _ _ => ?_ | refine tt ?_ | refine ff ?_ | refine tt ?_ rfl | with_reducible refine wr fun _ _ => ?_ | refine rp fun _ _ _ => ?_ | with_reducible refine bq ?_ | refine cl ?_ | refine sd ?_); cbv))
  refine el ?_ (by omega) hz
  clear hz
  cases b
  ·clear hg2
   cbv
   (repeat ((first | with_reducible refine ln fun _ _ _ => ?_ | refine tt ?_ | refine ff ?_ | refine tt ?_ rfl | with_reducible refine wr fun _ _ => ?_ | refine rp fun _ _ _ => ?_ | with_reducible refine bq ?_ | refine cl ?_ | refine sd ?_); cbv))
   rename_i q' hq'
   refine lets [0, 1, 2, 7, 9] ?_
   exact hK2 (i + 1 - (q + 1)).toNat _ _ (by omega) ⟨q + 1, by omega, by omega, rfl, hg' (fun e => by cases e), by rw [hq']; rfl, rfl⟩
  rcases Decidable.em (kd = 2) with h3 | h3
  ·rcases Decidable.em (m < cnt xs) with h4 | h4
   ·clear hg2
    cbv
    (repeat ((first | with_reducible refine ln fun _ _ _ => ?_ | refine tt ?_ | refine ff ?_ | refine tt ?_ rfl | with_reducible refine wr fun _ _ => ?_ | refine rp fun _ _ _ => ?_ | with_reducible refine bq ?_ | refine cl ?_ | refine sd ?_); cbv))
    refine el ?_ (by omega) hy
    cbv
    (repeat ((first | with_reducible refine ln fun _ _ _ => ?_ | refine tt ?_ | refine ff ?_ | refine tt ?_ rfl | with_reducible refine wr fun _ _ => ?_ | refine rp fun _ _ _ => ?_ | with_reducible refine bq ?_ | refine cl ?_ | refine sd ?_); cbv))
    refine el ?_ (by omega) hy
    cbv
    (repeat ((first | with_reducible refine ln fun _ _ _ => ?_ | refine tt ?_ | refine ff ?_ | refine tt ?_ rfl | with_reducible refine wr fun _ _ => ?_ | refine rp fun _ _ _ => ?_ | with_reducible refine bq ?_ | refine cl ?_ | refine sd ?_); cbv))
    rename_i q' hq'
    refine lets [0, 1, 2, 7, 9] ?_
    exact hK2 (i + 1 - (q + 1)).toNat _ _ (by omega) ⟨q + 1, by omega, by omega, rfl, hg' (fun _ _ => h4), by rw [hq']; rfl, rfl⟩
   ·rw [hg2 rfl h3 h4] at hu
    clear hg2 hg' hK2
    cbv
    (repeat ((first | with_reducible refine ln fun _ _ _ => ?_ | refine tt ?_ | refine ff ?_ | refine tt ?_ rfl | with_reducible refine wr fun _ _ => ?_ | refine rp fun _ _ _ => ?_ | with_reducible refine bq ?_ | refine cl ?_ | refine sd ?_); cbv))
    refine el ?_ (by omega) hy
    cbv
    (repeat ((first | with_reducible refine ln fun _ _ _ => ?_ | refine tt ?_ | refine ff ?_ | refine tt ?_ rfl | with_reducible refine wr fun _ _ => ?_ | refine rp fun _ _ _ => ?_ | with_reducible refine bq ?_ | refine cl ?_ | refine sd ?_); cbv))
    refine el ?_ (by omega) hy
    cbv
    (repeat ((first | with_reducible refine ln fun _ _ _ => ?_ | refine tt ?_ | refine ff ?_ | refine tt ?_ rfl | with_reducible refine wr fun _ _ => ?_ | refine rp fun _ _ _ => ?_ | with_reducible refine bq ?_ | refine cl ?_ | refine sd ?_); cbv))
    exact hu.symm
  ·clear hg2
   cbv
   (repeat ((first | with_reducible refine ln fun _ _ _ => ?_ | refine tt ?_ | refine ff ?_ | refine tt ?_ rfl | with_reducible refine wr fun _ _ => ?_ | refine rp fun _ _ _ => ?_ | with_reducible refine bq ?_ | refine cl ?_ | refine sd ?_); cbv))
   refine el ?_ (by omega) hy
   cbv
   (repeat ((first | with_reducible refine ln fun _ _ _ => ?_ | refine tt ?_ | refine ff ?_ | refine tt ?_ rfl | with_reducible refine wr fun _ _ => ?_ | refine rp fun _ _ _ => ?_ | with_reducible refine bq ?_ | refine cl ?_ | refine sd ?_); cbv))
   rename_i q' hq'
   refine lets [0, 1, 2, 7, 9] ?_
   exact hK2 (i + 1 - (q + 1)).toNat _ _ (by omega) ⟨q + 1, by omega, by omega, rfl, hg' (fun _ e => absurd e h3), by rw [hq']; rfl, rfl⟩
 ·rw [refs_iff.2 fun p t ht hb hk => hg p t (by have := hle p hb; omega) ht hb hk] at hu
  clear hg hcn hnx hle
  cbv
  (repeat ((first | with_reducible refine ln fun _ _ _ => ?_ | refine tt ?_ | refine ff ?_ | refine tt ?_ rfl | with_reducible refine wr fun _ _ => ?_ | refine rp fun _ _ _ => ?_ | with_reducible refine bq ?_ | refine cl ?_ | refine sd ?_); cbv))
  exact hu.symm
theorem alike {α : Type} {a b : List α} {n : Int} (hn : cnt a = n) (hb : cnt b = n) (h : ∀ (x : Nat), (x : Int) < n → a[x]? = b[x]?) : a = b := by
 unfold cnt at *
 refine List.ext_getElem? fun x => ?_
 by_cases e : (x : Int) < n
 ·exact h x e
 ·rw [List.getElem?_eq_none (by omega), List.getElem?_eq_none (by omega)]
theorem apart {α : Type} {a b : List α} {i : Int} {x y : α} (h1 : a[i.toNat]? = some x) (h2 : b[i.toNat]? = some y) (h : x ≠ y) : ¬ a = b := fun e => by
 rw [e, h2] at h1
 injection h1 with h1
 exact h h1.symm
theorem upto {α : Type} {a b : List α} {i : Int} {x : α} (h0 : 0 ≤ i) (h1 : a[i.toNat]? = some x) (h2 : b[i.toNat]? = some x) (h : ∀ (x : Nat), (x : Int) < i → a[x]? = b[x]?) : ∀ (x : Nat), (x : Int) < i + 1 → a[x]? = b[x]? := fun x hx => by
 by_cases e : (x : Int) = i
 ·have : x = i.toNat := by omega
  rw [this, h1, h2]
 ·exact h x (by omega)
def keepIntsR (us : List U) (u : U) : Prop := ∃ a b : List Int, cnt a ≤ 1000000 ∧ us = [.s 1 (uis a), .s 1 (uis b)] ∧ u = ub (decide (a = b))
theorem keepInts_ok : SoundF Tryz.prog 18 keepIntsR := sound [] orc_nil Tryz.func18 (by kernel_rfl) (by kernel_rfl) fun us u hR => by
 obtain ⟨a, b, hn, rfl, hu⟩ := hR
 obtain ⟨r, hr⟩ : ∃ r, (cnt a).toNat < r := ⟨_, Nat.lt_succ_self _⟩
 refine ⟨r, fun C E hC => ?_⟩
 have hva := fun i (h0 : 0 ≤ i) (h1 : i < cnt a) => nth_map (c := a) (fun x => [ui x]) h0 h1
 have hvb := fun i (h0 : 0 ≤ i) (h1 : i < cnt b) => nth_map (c := b) (fun x => [ui x]) h0 h1
 have hca := cnt_map a fun x => [ui x]
 have hcb := cnt_map b fun x => [ui x]
 have ha0 := cnt0 a
 unfold uis
 generalize a.map (fun x => [ui x]) = xs at *
 generalize b.map (fun x => [ui x]) = ys at *
 cbv
 rcases Decidable.em (cnt a = cnt b) with h1 | h1
 case inr =>
  rw [decide_eq_false (fun e => h1 (by rw [e]))] at hu
  (repeat ((first | refine ln fun _ _ _ => ?_ | refine tt ?_ | refine ff ?_ | refine wr fun _ _ => ?_ | refine rp fun _ _ _ => ?_ | with_reducible refine bq ?_ | refine cl ?_ | refine sd ?_ | intro _ _); cbv))
  exact hu.symm
 (repeat ((first | refine ln fun _ _ _ => ?_ | refine tt ?_ | refine ff ?_ | refine wr fun _ _ => ?_ | refine rp fun _ _ _ => ?_ | with_reducible refine bq ?_ | refine cl ?_ | refine sd ?_ | intro _ _); cbv))
 refine lets [0, 1, 5] ?_
 cbv
 refine loop_inv (fun j a1 h => ∃ i : Int, 0 ≤ i ∧ i ≤ cnt a ∧ j = (cnt a - i).toNat ∧ (∀ (x : Nat), (x : Int) < i → a[x]? = b[x]?) ∧ a1 = [.s 1 xs, .s 1 ys, .lost, .lost, .lost, ui i, .lost, .lost, .lost, .lost, .lost, .lost, .lost, .lost, .lost, .lost, .lost, .lost, .lost, .lost, .lost, .lost, .lost, .lost, .lost, .lost] ∧ h = []) ?_ r (cnt a).toNat _ _ hr ⟨0, by omega, by omega, by omega, fun x hx => absurd hx (by omega), rfl, rfl⟩
 rintro j a1 h K ⟨i, i0, i1, hj, hI, rfl, rfl⟩ hK
 rcases Decidable.em (i < cnt a) with hlt | hlt
 ·obtain ⟨x, hx, hx2⟩ := hva i i0 hlt
  obtain ⟨y, hy, hy2⟩ := hvb i i0 (by omega)
  rcases Decidable.em (x = y) with e | e
  ·subst e
   have hI := upto i0 hx hy hI
   clear hu
   (
    cbv
    (repeat ((first | refine ln fun _ _ _ => ?_ | refine tt ?_ | refine ff ?_ | refine wr fun _ _ => ?_ | refine rp fun _ _ _ => ?_ | with_reducible refine bq ?_ | refine cl ?_ | refine sd ?_ | intro _ _); cbv))
    refine el ?_ (by omega) hx2
    cbv
    (repeat ((first | refine ln fun _ _ _ => ?_ | refine tt ?_ | refine ff ?_ | refine wr fun _ _ => ?_ | refine rp fun _ _ _ => ?_ | with_reducible refine bq ?_ | refine cl ?_ | refine sd ?_ | intro _ _); cbv))
    refine el ?_ (by omega) hy2
    cbv
    (repeat ((first | refine ln fun _ _ _ => ?_ | refine tt ?_ | refine ff ?_ | refine wr fun _ _ => ?_ | refine rp fun _ _ _ => ?_ | with_reducible refine bq ?_ | refine cl ?_ | refine sd ?_ | intro _ _); cbv))
    rename_i q' hq'
    refine lets [0, 1, 5] ?_
    exact hK (cnt a - (i + 1)).toNat _ _ (by omega) ⟨i + 1, by omega, by omega, rfl, hI, by rw [hq']; rfl, rfl⟩)
  ·rw [decide_eq_false (apart hx hy e)] at hu
   clear hI hK
   (
    cbv
    (repeat ((first | refine ln fun _ _ _ => ?_ | refine tt ?_ | refine ff ?_ | refine wr fun _ _ => ?_ | refine rp fun _ _ _ => ?_ | with_reducible refine bq ?_ | refine cl ?_ | refine sd ?_ | intro _ _); cbv))
    refine el ?_ (by omega) hx2
    cbv
    (repeat ((first | refine ln fun _ _ _ => ?_ | refine tt ?_ | refine ff ?_ | refine wr fun _ _ => ?_ | refine rp fun _ _ _ => ?_ | with_reducible refine bq ?_ | refine cl ?_ | refine sd ?_ | intro _ _); cbv))
    refine el ?_ (by omega) hy2
    cbv
    (repeat ((first | refine ln fun _ _ _ => ?_ | refine tt ?_ | refine ff ?_ | refine wr fun _ _ => ?_ | refine rp fun _ _ _ => ?_ | with_reducible refine bq ?_ | refine cl ?_ | refine sd ?_ | intro _ _); cbv))
    exact hu.symm)
 ·rw [decide_eq_true (alike rfl h1.symm fun x hx => hI x (by omega))] at hu
  clear hI hK
  cbv
  (repeat ((first | refine ln fun _ _ _ => ?_ | refine tt ?_ | refine ff ?_ | refine wr fun _ _ => ?_ | refine rp fun _ _ _ => ?_ | with_reducible refine bq ?_ | refine cl ?_ | refine sd ?_ | intro _ _); cbv))
  exact hu.symm
def keepBoolsR (us : List U) (u : U) : Prop := ∃ a b : List Bool, cnt a ≤ 1000000 ∧ us = [.s 1 (uB a), .s 1 (uB b)] ∧ u = ub (decide (a = b))
theorem keepBools_ok : SoundF Tryz.prog 19 keepBoolsR := sound [] orc_nil Tryz.func19 (by kernel_rfl) (by kernel_rfl) fun us u hR => by
 obtain ⟨a, b, hn, rfl, hu⟩ := hR
 obtain ⟨r, hr⟩ : ∃ r, (cnt a).toNat < r := ⟨_, Nat.lt_succ_self _⟩
 refine ⟨r, fun C E hC => ?_⟩
 have hva := fun i (h0 : 0 ≤ i) (h1 : i < cnt a) => nth_map (c := a) (fun x => [ub x]) h0 h1
 have hvb := fun i (h0 : 0 ≤ i) (h1 : i < cnt b) => nth_map (c := b) (fun x => [ub x]) h0 h1
 have hca := cnt_map a fun x => [ub x]
 have hcb := cnt_map b fun x => [ub x]
 have ha0 := cnt0 a
 unfold uB
 generalize a.map (fun x => [ub x]) = xs at *
 generalize b.map (fun x => [ub x]) = ys at *
 cbv
 rcases Decidable.em (cnt a = cnt b) with h1 | h1
 case inr =>
  rw [decide_eq_false (fun e => h1 (by rw [e]))] at hu
  (repeat ((first | refine ln fun _ _ _ => ?_ | refine tt ?_ | refine ff ?_ | refine wr fun _ _ => ?_ | refine rp fun _ _ _ => ?_ | with_reducible refine bq ?_ | refine cl ?_ | refine sd ?_ | intro _ _); cbv))
  exact hu.symm
 (repeat ((first | refine ln fun _ _ _ => ?_ | refine tt ?_ | refine ff ?_ | refine wr fun _ _ => ?_ | refine rp fun _ _ _ => ?_ | with_reducible refine bq ?_ | refine cl ?_ | refine sd ?_ | intro _ _); cbv))
 refine lets [0, 1, 5] ?_
 cbv
 refine loop_inv (fun j a1 h => ∃ i : Int, 0 ≤ i ∧ i ≤ cnt a ∧ j = (cnt a - i).toNat ∧ (∀ (x : Nat), (x : Int) < i → a[x]? = b[x]?) ∧ a1 = [.s 1 xs, .s 1 ys, .lost, .lost, .lost, ui i, .lost, .lost, .lost, .lost, .lost, .lost, .lost, .lost, .lost, .lost, .lost, .lost, .lost, .lost, .lost, .lost, .lost, .lost, .lost, .lost] ∧ h = []) ?_ r (cnt a).toNat _ _ hr ⟨0, by omega, by omega, by omega, fun x hx => absurd hx (by omega), rfl, rfl⟩
 rintro j a1 h K ⟨i, i0, i1, hj, hI, rfl, rfl⟩ hK
 rcases Decidable.em (i < cnt a) with hlt | hlt
 ·obtain ⟨x, hx, hx2⟩ := hva i i0 hlt
  obtain ⟨y, hy, hy2⟩ := hvb i i0 (by omega)
  rcases Decidable.em (x = y) with e | e
  ·subst e
   have hI := upto i0 hx hy hI
   clear hu
   cases x <;> (
    cbv
    (repeat ((first | refine ln fun _ _ _ => ?_ | refine tt ?_ | refine ff ?_ | refine wr fun _ _ => ?_ | refine rp fun _ _ _ => ?_ | with_reducible refine bq ?_ | refine cl ?_ | refine sd ?_ | intro _ _); cbv))
    refine el ?_ (by omega) hx2
    cbv
    (repeat ((first | refine ln fun _ _ _ => ?_ | refine tt ?_ | refine ff ?_ | refine wr fun _ _ => ?_ | refine rp fun _ _ _ => ?_ | with_reducible refine bq ?_ | refine cl ?_ | refine sd ?_ | intro _ _); cbv))
    refine el ?_ (by omega) hy2
    cbv
    (repeat ((first | refine ln fun _ _ _ => ?_ | refine tt ?_ | refine ff ?_ | refine wr fun _ _ => ?_ | refine rp fun _ _ _ => ?_ | with_reducible refine bq ?_ | refine cl ?_ | refine sd ?_ | intro _ _); cbv))
    rename_i q' hq'
    refine lets [0, 1, 5] ?_
    exact hK (cnt a - (i + 1)).toNat _ _ (by omega) ⟨i + 1, by omega, by omega, rfl, hI, by rw [hq']; rfl, rfl⟩)
  ·rw [decide_eq_false (apart hx hy e)] at hu
   clear hI hK
   cases x <;> cases y <;> first | exact absurd rfl e | (
    cbv
    (repeat ((first | refine ln fun _ _ _ => ?_ | refine tt ?_ | refine ff ?_ | refine wr fun _ _ => ?_ | refine rp fun _ _ _ => ?_ | with_reducible refine bq ?_ | refine cl ?_ | refine sd ?_ | intro _ _); cbv))
    refine el ?_ (by omega) hx2
    cbv
    (repeat ((first | refine ln fun _ _ _ => ?_ | refine tt ?_ | refine ff ?_ | refine wr fun _ _ => ?_ | refine rp fun _ _ _ => ?_ | with_reducible refine bq ?_ | refine cl ?_ | refine sd ?_ | intro _ _); cbv))
    refine el ?_ (by omega) hy2
    cbv
    (repeat ((first | refine ln fun _ _ _ => ?_ | refine tt ?_ | refine ff ?_ | refine wr fun _ _ => ?_ | refine rp fun _ _ _ => ?_ | with_reducible refine bq ?_ | refine cl ?_ | refine sd ?_ | intro _ _); cbv))
    exact hu.symm)
 ·rw [decide_eq_true (alike rfl h1.symm fun x hx => hI x (by omega))] at hu
  clear hI hK
  cbv
  (repeat ((first | refine ln fun _ _ _ => ?_ | refine tt ?_ | refine ff ?_ | refine wr fun _ _ => ?_ | refine rp fun _ _ _ => ?_ | with_reducible refine bq ?_ | refine cl ?_ | refine sd ?_ | intro _ _); cbv))
  exact hu.symm
theorem keepNR {a b : List Int} (h : cnt a ≤ 1000000) : steelyardkeep_Nat.R [.l a, .l b] (ub (decide (a = b))) := by obtain ⟨k, hk⟩ := (same_tells a b (by unfold cnt at h; omega)).rounds; exact ⟨k, _, _, _, rfl, hk, rfl⟩
def keepIR (us : List U) (u : U) : Prop := ∃ s1 l1 s2 l2, cnt l1 ≤ 1000000 ∧ us = [.agg [ub s1, .l l1], .agg [ub s2, .l l2]] ∧ u = ub (decide ((s1, l1) = (s2, l2)))
theorem keepI_ok : SoundF Tryz.prog 37 keepIR := sound [(38, steelyardkeep_Nat.R)] (orc_cons steelyardkeep_Nat.sound orc_nil) Tryz.func37 (by kernel_rfl) (by kernel_rfl) fun us u hR => ⟨0, fun C E hC => by
 obtain ⟨s1, l1, s2, l2, h, rfl, hu⟩ := hR
 have k := hC 38 steelyardkeep_Nat.R (by simp) _ _ (keepNR (b := l2) h)
 by_cases h1 : s1 = s2
 ·rw [show decide ((s1, l1) = (s2, l2)) = decide (l1 = l2) by rw [decide_eq_decide]; simp [h1]] at hu
  generalize decide (l1 = l2) = t at *
  cases s1 <;> cases s2 <;> first | exact absurd h1 (by decide) | (cbv; (repeat ((first | refine ln fun _ _ _ => ?_ | refine tt ?_ | refine ff ?_ | refine wr fun _ _ => ?_ | refine rp fun _ _ _ => ?_ | with_reducible refine bq ?_ | refine cl ?_ | refine sd ?_ | intro _ _); cbv)); exact hu.symm)
 ·rw [decide_eq_false (show ¬ (s1, l1) = (s2, l2) by simp [h1])] at hu
  cases s1 <;> cases s2 <;> first | exact absurd rfl h1 | (cbv; (repeat ((first | refine ln fun _ _ _ => ?_ | refine tt ?_ | refine ff ?_ | refine wr fun _ _ => ?_ | refine rp fun _ _ _ => ?_ | with_reducible refine bq ?_ | refine cl ?_ | refine sd ?_ | intro _ _); cbv)); exact hu.symm)⟩
def keepR (us : List U) (u : U) : Prop := ∃ a b : R3, cnt a.2.1 ≤ 1000000 ∧ cnt a.2.2 ≤ 1000000 ∧ us = [uR a, uR b] ∧ u = ub (decide (a = b))
theorem keep_ok : SoundF Tryz.prog 17 keepR := sound [(37, keepIR), (38, steelyardkeep_Nat.R)] (orc_cons keepI_ok (orc_cons steelyardkeep_Nat.sound orc_nil)) Tryz.func17 (by kernel_rfl) (by kernel_rfl) fun us u hR => ⟨0, fun C E hC => by
 obtain ⟨⟨s1, l1, b1⟩, ⟨s2, l2, b2⟩, h, h', rfl, hu⟩ := hR
 have k1 := hC 37 keepIR (by simp) _ _ ⟨s1, l1, s2, l2, h, rfl, rfl⟩
 have k2 := hC 38 steelyardkeep_Nat.R (by simp) _ _ (keepNR (b := b2) h')
 have e : decide ((s1, l1, b1) = (s2, l2, b2)) = (decide ((s1, l1) = (s2, l2)) && decide (b1 = b2)) := by rw [Bool.eq_iff_iff]; simp [and_assoc]
 rw [e] at hu
 clear e h h'
 generalize decide ((s1, l1) = (s2, l2)) = t1 at *
 generalize decide (b1 = b2) = t2 at *
 cases t1 <;> cases t2 <;> cbv <;> (repeat ((first | refine ln fun _ _ _ => ?_ | refine tt ?_ | refine ff ?_ | refine wr fun _ _ => ?_ | refine rp fun _ _ _ => ?_ | with_reducible refine bq ?_ | refine cl ?_ | refine sd ?_ | intro _ _); cbv)) <;> exact hu.symm⟩
def oneS (t : Tm) (a b : R3) (xs : List R3) : R4 :=
 if t.k = 1 then to4 t.q
 else if t.k = 2 then to4 (at3 xs t.n)
 else if t.k = 3 then addS a b
 else if t.k = 4 then subS a b
 else if t.k = 5 then mulS a b
 else if t.k = 6 then divS a b
 else if t.k = 7 then to4 (negS a)
 else powS a t.n
def oneR (us : List U) (u : U) : Prop := ∃ t i a b xs, termOk t i = true ∧ (t.k = 2 → t.n < cnt xs) ∧ LB a ∧ LB b ∧ us = [.agg (tU t), uR a, uR b, qsU xs] ∧ u = u76 (oneS t a b xs)
theorem one_ok : SoundF Tryz.prog 29 oneR := sound [(50, got2R addS), (51, got2R subS), (52, got2R mulS), (42, div7R), (53, neg7R), (54, of8R)] (orc_cons add7_ok (orc_cons sub7_ok (orc_cons mul7_ok (orc_cons div7_ok (orc_cons neg7_ok (orc_cons of8_ok orc_nil)))))) Tryz.func29 (by kernel_rfl) (by kernel_rfl) fun us u hR => ⟨0, fun C E hC => by
 obtain ⟨t, i, ⟨s1, l1, d1⟩, ⟨s2, l2, d2⟩, xs, ht, hr, ha, hb, rfl, hu⟩ := hR
 have hxm := fun i (h0 : 0 ≤ i) (h1 : i < cnt xs) => nth_map (c := xs) qU h0 h1
 have hc := term_cases ht
 obtain ⟨kd, ta, tb, m, s, l, d⟩ := t
 dsimp only at hc hr
 unfold oneS at hu
 dsimp only at hu
 unfold qsU
 generalize xs.map qU = ys at *
 clear ht
 rcases hc with h | ⟨h, h2⟩ | ⟨h, h2, h3⟩ | ⟨h, h2⟩ | ⟨h, h2, h3⟩
 ·subst h
  rw [if_pos rfl] at hu
  have hu : u = .agg [ub s, .l l, .l d, ui 0] := hu
  cbv; (repeat ((first | with_reducible refine ln fun _ _ _ => ?_ | refine tt ?_ | refine ff ?_ | with_reducible refine wr fun _ _ => ?_ | refine rp fun _ _ _ => ?_ | with_reducible refine bq ?_ | refine cl ?_ | refine sd ?_); cbv)); exact hu.symm
 ·subst h
  obtain ⟨⟨s3, l3, d3⟩, v1, w1⟩ := hxm m h2 (hr rfl)
  rw [if_neg (by omega), if_pos rfl, at3_of v1] at hu
  have hu : u = .agg [ub s3, .l l3, .l d3, ui 0] := hu
  cbv; (repeat ((first | with_reducible refine ln fun _ _ _ => ?_ | refine tt ?_ | refine ff ?_ | with_reducible refine wr fun _ _ => ?_ | refine rp fun _ _ _ => ?_ | with_reducible refine bq ?_ | refine cl ?_ | refine sd ?_); cbv))
  refine el ?_ (by omega) w1
  cbv; (repeat ((first | with_reducible refine ln fun _ _ _ => ?_ | refine tt ?_ | refine ff ?_ | with_reducible refine wr fun _ _ => ?_ | refine rp fun _ _ _ => ?_ | with_reducible refine bq ?_ | refine cl ?_ | refine sd ?_); cbv)); exact hu.symm
 ·rcases h with h | h | h | h
  ·subst h
   have k1 := hC 50 (got2R addS) (by simp) _ _ ⟨_, _, ha, hb, rfl, rfl⟩
   rw [if_neg (by omega), if_neg (by omega), if_pos rfl] at hu
   obtain ⟨s7, l7, d7, e7, hu', _⟩ := u76_parts (addS (s1, l1, d1) (s2, l2, d2))
   rw [hu'] at hu k1
   cbv; (repeat ((first | with_reducible refine ln fun _ _ _ => ?_ | refine tt ?_ | refine ff ?_ | with_reducible refine wr fun _ _ => ?_ | refine rp fun _ _ _ => ?_ | with_reducible refine bq ?_ | refine cl ?_ | refine sd ?_); cbv)); exact hu.symm
  ·subst h
   have k1 := hC 51 (got2R subS) (by simp) _ _ ⟨_, _, ha, hb, rfl, rfl⟩
   rw [if_neg (by omega), if_neg (by omega), if_neg (by omega), if_pos rfl] at hu
   obtain ⟨s7, l7, d7, e7, hu', _⟩ := u76_parts (subS (s1, l1, d1) (s2, l2, d2))
   rw [hu'] at hu k1
   cbv; (repeat ((first | with_reducible refine ln fun _ _ _ => ?_ | refine tt ?_ | refine ff ?_ | with_reducible refine wr fun _ _ => ?_ | refine rp fun _ _ _ => ?_ | with_reducible refine bq ?_ | refine cl ?_ | refine sd ?_); cbv)); exact hu.symm
  ·subst h
   have k1 := hC 52 (got2R mulS) (by simp) _ _ ⟨_, _, ha, hb, rfl, rfl⟩
   rw [if_neg (by omega), if_neg (by omega), if_neg (by omega), if_neg (by omega), if_pos rfl] at hu
   obtain ⟨s7, l7, d7, e7, hu', _⟩ := u76_parts (mulS (s1, l1, d1) (s2, l2, d2))
   rw [hu'] at hu k1
   cbv; (repeat ((first | with_reducible refine ln fun _ _ _ => ?_ | refine tt ?_ | refine ff ?_ | with_reducible refine wr fun _ _ => ?_ | refine rp fun _ _ _ => ?_ | with_reducible refine bq ?_ | refine cl ?_ | refine sd ?_); cbv)); exact hu.symm
  ·subst h
   have k1 := hC 42 div7R (by simp) _ _ ⟨_, _, ha, hb, rfl, rfl⟩
   rw [if_neg (by omega), if_neg (by omega), if_neg (by omega), if_neg (by omega), if_neg (by omega), if_pos rfl] at hu
   obtain ⟨s7, l7, d7, e7, hu', _⟩ := u76_parts (divS (s1, l1, d1) (s2, l2, d2))
   rw [hu'] at hu k1
   cbv; (repeat ((first | with_reducible refine ln fun _ _ _ => ?_ | refine tt ?_ | refine ff ?_ | with_reducible refine wr fun _ _ => ?_ | refine rp fun _ _ _ => ?_ | with_reducible refine bq ?_ | refine cl ?_ | refine sd ?_); cbv)); exact hu.symm
 ·subst h
  obtain ⟨s7, l7, d7, k1, ek⟩ := tR (hC 53 neg7R (by simp) _ _ ⟨_, ha, rfl, rfl⟩)
  rw [if_neg (by omega), if_neg (by omega), if_neg (by omega), if_neg (by omega), if_neg (by omega), if_neg (by omega), if_pos rfl, ← ek] at hu
  have hu : u = .agg [ub s7, .l l7, .l d7, ui 0] := hu
  cbv; (repeat ((first | with_reducible refine ln fun _ _ _ => ?_ | refine tt ?_ | refine ff ?_ | with_reducible refine wr fun _ _ => ?_ | refine rp fun _ _ _ => ?_ | with_reducible refine bq ?_ | refine cl ?_ | refine sd ?_); cbv)); exact hu.symm
 ·subst h
  have k1 := hC 54 of8R (by simp) _ _ ⟨(s1, l1, d1), m, ha, by omega, by omega, rfl, rfl⟩
  rw [if_neg (by omega), if_neg (by omega), if_neg (by omega), if_neg (by omega), if_neg (by omega), if_neg (by omega), if_neg (by omega)] at hu
  obtain ⟨s7, l7, d7, e7, hu', _⟩ := u76_parts (powS (s1, l1, d1) m)
  rw [hu'] at hu k1
  cbv; (repeat ((first | with_reducible refine ln fun _ _ _ => ?_ | refine tt ?_ | refine ff ?_ | with_reducible refine wr fun _ _ => ?_ | refine rp fun _ _ _ => ?_ | with_reducible refine bq ?_ | refine cl ?_ | refine sd ?_); cbv)); exact hu.symm⟩
def keepRatsR (us : List U) (u : U) : Prop := ∃ a : List R3, (∀ q ∈ a, cnt q.2.1 ≤ 1000000 ∧ cnt q.2.2 ≤ 1000000) ∧ cnt a ≤ 1000000 ∧ us = [qsU a, qsU a] ∧ u = ub true
theorem keepRats_ok : SoundF Tryz.prog 23 keepRatsR := sound [(17, keepR)] (orc_cons keep_ok orc_nil) Tryz.func23 (by kernel_rfl) (by kernel_rfl) fun us u hR => by
 obtain ⟨a, hq, hn, rfl, hu⟩ := hR
 obtain ⟨r, hr⟩ : ∃ r, (cnt a).toNat < r := ⟨_, Nat.lt_succ_self _⟩
 refine ⟨r, fun C E hC => ?_⟩
 have hva := fun i (h0 : 0 ≤ i) (h1 : i < cnt a) => nth_map (c := a) qU h0 h1
 have kr : ∀ (i : Int) q, a[i.toNat]? = some q → C 17 [.agg (qU q), .agg (qU q)] (ub true) := fun i q h => by
  have := hC 17 keepR (by simp) _ _ ⟨q, q, (hq q (List.mem_of_getElem? h)).1, (hq q (List.mem_of_getElem? h)).2, rfl, rfl⟩
  rwa [decide_eq_true rfl] at this
 have hca := cnt_map a qU
 have ha0 := cnt0 a
 unfold qsU
 generalize a.map qU = xs at *
 clear hC hq
 cbv
 (repeat ((first | with_reducible refine ln fun _ _ _ => ?_ | refine tt ?_ | refine ff ?_ | with_reducible refine wr fun _ _ => ?_ | refine rp fun _ _ _ => ?_ | with_reducible refine bq ?_ | refine cl ?_ | refine sd ?_); cbv))
 refine lets [0, 1, 5] ?_
 cbv
 refine loop_inv (fun j a1 h => ∃ i : Int, 0 ≤ i ∧ i ≤ cnt a ∧ j = (cnt a - i).toNat ∧ a1 = [.s 3 xs, .s 3 xs, .lost, .lost, .lost, ui i, .lost, .lost, .lost, .lost, .lost, .lost, .lost, .lost, .lost, .lost, .lost, .lost, .lost, .lost, .lost, .lost, .lost, .lost, .lost, .lost, .lost] ∧ h = []) ?_ r (cnt a).toNat _ _ hr ⟨0, by omega, by omega, by omega, rfl, rfl⟩
 rintro j a1 h K ⟨i, i0, i1, hj, rfl, rfl⟩ hK
 rcases Decidable.em (i < cnt a) with hlt | hlt
 ·obtain ⟨⟨s, l, d⟩, hx, hx2⟩ := hva i i0 hlt
  have k1 := kr i _ hx
  clear hva kr
  cbv
  (repeat ((first | with_reducible refine ln fun _ _ _ => ?_ | refine tt ?_ | refine ff ?_ | with_reducible refine wr fun _ _ => ?_ | refine rp fun _ _ _ => ?_ | with_reducible refine bq ?_ | refine cl ?_ | refine sd ?_); cbv))
  refine el ?_ (by omega) hx2
  cbv
  (repeat ((first | with_reducible refine ln fun _ _ _ => ?_ | refine tt ?_ | refine ff ?_ | with_reducible refine wr fun _ _ => ?_ | refine rp fun _ _ _ => ?_ | with_reducible refine bq ?_ | refine cl ?_ | refine sd ?_); cbv))
  refine el ?_ (by omega) hx2
  cbv
  (repeat ((first | with_reducible refine ln fun _ _ _ => ?_ | refine tt ?_ | refine ff ?_ | with_reducible refine wr fun _ _ => ?_ | refine rp fun _ _ _ => ?_ | with_reducible refine bq ?_ | refine cl ?_ | refine sd ?_); cbv))
  rename_i q' hq'
  refine lets [0, 1, 5] ?_
  exact hK (cnt a - (i + 1)).toNat _ _ (by omega) ⟨i + 1, by omega, by omega, rfl, by rw [hq']; rfl, rfl⟩
 ·clear hva kr hK
  cbv
  (repeat ((first | with_reducible refine ln fun _ _ _ => ?_ | refine tt ?_ | refine ff ?_ | with_reducible refine wr fun _ _ => ?_ | refine rp fun _ _ _ => ?_ | with_reducible refine bq ?_ | refine cl ?_ | refine sd ?_); cbv))
  exact hu.symm
def keepCoreR (us : List U) (u : U) : Prop := ∃ a : List Tm, (∀ t ∈ a, cnt t.q.2.1 ≤ 1000000 ∧ cnt t.q.2.2 ≤ 1000000) ∧ cnt a ≤ 1000000 ∧ us = [cU a, cU a] ∧ u = ub true
theorem keepCore_ok : SoundF Tryz.prog 22 keepCoreR := sound [(17, keepR)] (orc_cons keep_ok orc_nil) Tryz.func22 (by kernel_rfl) (by kernel_rfl) fun us u hR => by
 obtain ⟨a, hq, hn, rfl, hu⟩ := hR
 obtain ⟨r, hr⟩ : ∃ r, (cnt a).toNat < r := ⟨_, Nat.lt_succ_self _⟩
 refine ⟨r, fun C E hC => ?_⟩
 have hva := fun i (h0 : 0 ≤ i) (h1 : i < cnt a) => nth_map (c := a) tU h0 h1
 have kr : ∀ (i : Int) t, a[i.toNat]? = some t → C 17 [.agg (qU t.q), .agg (qU t.q)] (ub true) := fun i t h => by
  have := hC 17 keepR (by simp) _ _ ⟨t.q, t.q, (hq t (List.mem_of_getElem? h)).1, (hq t (List.mem_of_getElem? h)).2, rfl, rfl⟩
  rwa [decide_eq_true rfl] at this
 have hca := cnt_map a tU
 have ha0 := cnt0 a
 unfold cU
 generalize a.map tU = xs at *
 clear hC hq
 cbv
 (repeat ((first | with_reducible refine ln fun _ _ _ => ?_ | refine tt ?_ | refine ff ?_ | with_reducible refine wr fun _ _ => ?_ | refine rp fun _ _ _ => ?_ | with_reducible refine bq ?_ | refine cl ?_ | refine sd ?_); cbv))
 refine lets [0, 1, 5] ?_
 cbv
 refine loop_inv (fun j a1 h => ∃ i : Int, 0 ≤ i ∧ i ≤ cnt a ∧ j = (cnt a - i).toNat ∧ a1 = [.s 7 xs, .s 7 xs, .lost, .lost, .lost, ui i, .lost, .lost, .lost, .lost, .lost, .lost, .lost, .lost, .lost, .lost, .lost, .lost, .lost, .lost, .lost, .lost, .lost, .lost, .lost, .lost, .lost, .lost, .lost, .lost, .lost, .lost, .lost, .lost, .lost, .lost, .lost, .lost, .lost, .lost, .lost, .lost, .lost, .lost, .lost, .lost, .lost, .lost, .lost, .lost, .lost, .lost, .lost, .lost, .lost, .lost, .lost, .lost, .lost, .lost, .lost] ∧ h = []) ?_ r (cnt a).toNat _ _ hr ⟨0, by omega, by omega, by omega, rfl, rfl⟩
 rintro j a1 h K ⟨i, i0, i1, hj, rfl, rfl⟩ hK
 rcases Decidable.em (i < cnt a) with hlt | hlt
 ·obtain ⟨⟨kd, ta, tb, m, s, l, d⟩, hx, hx2⟩ := hva i i0 hlt
  have k1 := kr i _ hx
  clear hva kr
  dsimp only at k1
  cbv
  (repeat ((first | with_reducible refine ln fun _ _ _ => ?_ | refine tt ?_ | refine ff ?_ | with_reducible refine wr fun _ _ => ?_ | refine rp fun _ _ _ => ?_ | with_reducible refine bq ?_ | refine cl ?_ | refine sd ?_); cbv))
  refine el ?_ (by omega) hx2
  cbv
  (repeat ((first | with_reducible refine ln fun _ _ _ => ?_ | refine tt ?_ | refine ff ?_ | with_reducible refine wr fun _ _ => ?_ | refine rp fun _ _ _ => ?_ | with_reducible refine bq ?_ | refine cl ?_ | refine sd ?_); cbv))
  refine el ?_ (by omega) hx2
  cbv
  (repeat ((first | with_reducible refine ln fun _ _ _ => ?_ | refine tt ?_ | refine ff ?_ | with_reducible refine wr fun _ _ => ?_ | refine rp fun _ _ _ => ?_ | with_reducible refine bq ?_ | refine cl ?_ | refine sd ?_); cbv))
  rename_i q' hq'
  refine lets [0, 1, 5] ?_
  exact hK (cnt a - (i + 1)).toNat _ _ (by omega) ⟨i + 1, by omega, by omega, rfl, by rw [hq']; rfl, rfl⟩
 ·clear hva kr hK
  cbv
  (repeat ((first | with_reducible refine ln fun _ _ _ => ?_ | refine tt ?_ | refine ff ?_ | with_reducible refine wr fun _ _ => ?_ | refine rp fun _ _ _ => ?_ | with_reducible refine bq ?_ | refine cl ?_ | refine sd ?_); cbv))
  exact hu.symm
def copyCR (us : List U) (u : U) : Prop := ∃ xs : List Tm, (∀ t ∈ xs, cnt t.q.2.1 ≤ 1000000 ∧ cnt t.q.2.2 ≤ 1000000) ∧ cnt xs ≤ 1000000 ∧ us = [cU xs] ∧ u = cU xs
theorem copyC_ok : SoundF Tryz.prog 11 copyCR := relax (sound (R := fun us u => ∃ xs : List Tm, (∀ t ∈ xs, cnt t.q.2.1 ≤ 1000000 ∧ cnt t.q.2.2 ≤ 1000000) ∧ cnt xs ≤ 1000000 ∧ us = [cU xs] ∧ u = if xs = [] then nilU else cU xs) [(33, ownQR)] (orc_cons ownQ_ok orc_nil) Tryz.func11 (by kernel_rfl) (by kernel_rfl) fun us u hR => by
 obtain ⟨xs, hb, hn, rfl, hu⟩ := hR
 obtain ⟨r, hr⟩ : ∃ r, (cnt xs).toNat < r := ⟨_, Nat.lt_succ_self _⟩
 refine ⟨r, fun C E hC => ?_⟩
 have kQ := hC 33 ownQR (by simp)
 have hm := fun i (h0 : 0 ≤ i) (h1 : i < cnt xs) => nth_map (c := xs) tU h0 h1
 have hc := cnt_map xs tU
 have hc0 := cnt0 xs
 unfold cU at *
 generalize xs.map tU = cs at *
 clear hC
 cbv
 (repeat ((first | with_reducible refine ln fun _ _ _ => ?_ | refine tt ?_ | refine ff ?_ | with_reducible refine wr fun _ _ => ?_ | refine rp fun _ _ _ => ?_ | with_reducible refine bq ?_ | refine cl ?_ | refine sd ?_); cbv))
 refine lets [0, 3, 4] ?_
 cbv
 refine loop_inv (fun j a h => ∃ q : Int, 0 ≤ q ∧ q ≤ cnt xs ∧ j = (cnt xs - q).toNat ∧ ((q = 0 ∧ a = [.s 7 cs, .lost, .lost, nilU, ui q, .lost, .lost, .lost, .lost, .lost, .lost, .lost, .lost, .lost, .lost, .lost, .lost, .lost, .lost, .lost, .lost, .lost, .lost, .lost, .lost] ∧ h = []) ∨ (∃ (d : Int) (row : Rows), 1 ≤ q ∧ d = cnt row ∧ q ≤ d ∧ row.take q.toNat = cs.take q.toNat ∧ a = [.s 7 cs, .lost, .lost, .sl 0 q d 7, ui q, .lost, .lost, .lost, .lost, .lost, .lost, .lost, .lost, .lost, .lost, .lost, .lost, .lost, .lost, .lost, .lost, .lost, .lost, .lost, .lost] ∧ h = [some (.row 7 row)]))) ?_ r (cnt xs).toNat _ _ (by omega) ⟨0, by omega, by omega, by omega, .inl ⟨rfl, rfl, rfl⟩⟩
 rintro j a h K ⟨q, q0, q1, hj, hI⟩ hK
 rcases Decidable.em (q < cnt xs) with hlt | hlt
 ·obtain ⟨t, ht, hy⟩ := hm q q0 hlt
  have hbt := hb t (List.mem_of_getElem? ht)
  have hnx := take_next q0 hy
  have htk := cnt_take (cs := cs) q0 (by omega)
  have kq := kQ _ _ ⟨t.q, hbt.1, hbt.2, rfl, rfl⟩
  obtain ⟨kd, ta, tb, m, s, l, dd⟩ := t
  have kq : C 33 [.agg [ub s, .l l, .l dd]] (.agg [ub s, .l l, .l dd]) := kq
  rcases hI with ⟨hq, rfl, rfl⟩ | ⟨d, row, hq, hd, hqd, hrow, rfl, rfl⟩
  ·cbv
   (repeat ((first | with_reducible refine ln fun _ _ _ => ?_ | refine tt ?_ | refine ff ?_ | with_reducible refine wr fun _ _ => ?_ | refine rp fun _ _ _ => ?_ | with_reducible refine bq ?_ | refine cl ?_ | refine sd ?_); cbv))
   refine el ?_ (by omega) hy
   cbv
   (repeat ((first | with_reducible refine ln fun _ _ _ => ?_ | refine tt ?_ | refine ff ?_ | with_reducible refine wr fun _ _ => ?_ | refine rp fun _ _ _ => ?_ | with_reducible refine bq ?_ | refine cl ?_ | refine sd ?_); cbv))
   refine sd ?_ (by unfold cnt; simp)
   intro nn cc zs e1 e2 e3
   have e1 : nn = q + 1 := by rw [hq]; exact e1
   have t1 : cc = cnt zs := by
    rw [e3]
    unfold cnt
    simp
    omega
   have t2 : zs.take (q + 1).toNat = cs.take (q + 1).toNat := by
    rw [hnx, hq, e3]
    rfl
   clear e3
   cbv
   (repeat ((first | with_reducible refine ln fun _ _ _ => ?_ | refine tt ?_ | refine ff ?_ | with_reducible refine wr fun _ _ => ?_ | refine rp fun _ _ _ => ?_ | with_reducible refine bq ?_ | refine cl ?_ | refine sd ?_); cbv))
   rename_i q' hq'
   refine letsA [0, 4] 3 1 ?_ (hj := by simp)
   exact hK (cnt xs - (q + 1)).toNat _ _ (by omega) ⟨q + 1, by omega, by omega, rfl, .inr ⟨cc, zs, by omega, t1, by omega, t2, by rw [hq', e1]; rfl, rfl⟩⟩
  ·cbv
   (repeat ((first | with_reducible refine ln fun _ _ _ => ?_ | refine tt ?_ | refine ff ?_ | with_reducible refine wr fun _ _ => ?_ | refine rp fun _ _ _ => ?_ | with_reducible refine bq ?_ | refine cl ?_ | refine sd ?_); cbv))
   refine el ?_ (by omega) hy
   cbv
   (repeat ((first | with_reducible refine ln fun _ _ _ => ?_ | refine tt ?_ | refine ff ?_ | with_reducible refine wr fun _ _ => ?_ | refine rp fun _ _ _ => ?_ | with_reducible refine bq ?_ | refine cl ?_ | refine sd ?_); cbv))
   refine sd ?_ ⟨by unfold cnt; simp, by unfold cnt; simp, by omega, hd⟩
   intro nn e1
   have e1 : nn = q + 1 := e1
   refine ⟨fun zs e2 e3 => ?_, fun cc zs e2 e3 e4 => ?_⟩
   ·have t1 : d = cnt zs := cnt_in (z := [ui kd, ui ta, ui tb, ui m, ub s, .l l, .l dd]) q0 hd (by omega) e3
    have t2 : zs.take (q + 1).toNat = cs.take (q + 1).toNat := by rw [hnx]; exact take_row htk.symm hrow e3
    clear e3
    cbv
    (repeat ((first | with_reducible refine ln fun _ _ _ => ?_ | refine tt ?_ | refine ff ?_ | with_reducible refine wr fun _ _ => ?_ | refine rp fun _ _ _ => ?_ | with_reducible refine bq ?_ | refine cl ?_ | refine sd ?_); cbv))
    rename_i q' hq'
    refine letsA [0, 4] 3 0 ?_ (hj := by simp)
    exact hK (cnt xs - (q + 1)).toNat _ _ (by omega) ⟨q + 1, by omega, by omega, rfl, .inr ⟨d, zs, by omega, t1, by omega, t2, by rw [hq', e1]; rfl, rfl⟩⟩
   ·have t1 : cc = cnt zs := cnt_new (z := [ui kd, ui ta, ui tb, ui m, ub s, .l l, .l dd]) q0 hd hqd (by omega) e4
    have t2 : zs.take (q + 1).toNat = cs.take (q + 1).toNat := by rw [hnx]; exact take_row htk.symm hrow e4
    clear e4
    cbv
    (repeat ((first | with_reducible refine ln fun _ _ _ => ?_ | refine tt ?_ | refine ff ?_ | with_reducible refine wr fun _ _ => ?_ | refine rp fun _ _ _ => ?_ | with_reducible refine bq ?_ | refine cl ?_ | refine sd ?_); cbv))
    rename_i q' hq'
    refine letsA [0, 4] 3 2 ?_ (hj := by simp)
    exact hK (cnt xs - (q + 1)).toNat _ _ (by omega) ⟨q + 1, by omega, by omega, rfl, .inr ⟨cc, zs, by omega, t1, by omega, t2, by rw [hq', e1]; rfl, rfl⟩⟩
 ·rcases hI with ⟨hq, rfl, rfl⟩ | ⟨d, row, hq, hd, hqd, hrow, rfl, rfl⟩
  ·have hxe : xs = [] := List.eq_nil_of_length_eq_zero (by unfold cnt at *; omega)
   rw [if_pos hxe] at hu
   clear hK hm
   cbv
   (repeat ((first | with_reducible refine ln fun _ _ _ => ?_ | refine tt ?_ | refine ff ?_ | with_reducible refine wr fun _ _ => ?_ | refine rp fun _ _ _ => ?_ | with_reducible refine bq ?_ | refine cl ?_ | refine sd ?_); cbv))
   exact hu.symm
  ·have hqx : q = cnt xs := by omega
   rw [if_neg (fun e => by rw [e] at hqx; have : cnt ([] : List Tm) = 0 := rfl; omega)] at hu
   have hcs : cs.take q.toNat = cs := List.take_of_length_le (by unfold cnt at *; omega)
   rw [hcs] at hrow
   clear hK hm
   cbv
   (repeat ((first | refine ln fun _ _ _ => ?_ | refine tt ?_ | refine ff ?_ | refine wr fun _ _ => ?_ | refine rp fun _ _ _ => ?_ | with_reducible refine bq ?_ | refine cl ?_ | refine sd ?_ | intro _ _); cbv))
   rename_i ys e
   rw [hu, e, hrow]) fun us u ⟨xs, h1, h2, h3, h4⟩ => by
 refine ⟨us, _, ⟨xs, h1, h2, h3, rfl⟩, eqs_refl _, ?_⟩
 rw [h4]
 split
 ·rename_i h
  rw [h]
  exact .inr ⟨rfl, 7, rfl⟩
 ·exact .inl rfl
def copyXR (us : List U) (u : U) : Prop := ∃ xs : List R3, (∀ t ∈ xs, cnt t.2.1 ≤ 1000000 ∧ cnt t.2.2 ≤ 1000000) ∧ cnt xs ≤ 1000000 ∧ us = [qsU xs] ∧ u = qsU xs
theorem copyX_ok : SoundF Tryz.prog 12 copyXR := relax (sound (R := fun us u => ∃ xs : List R3, (∀ t ∈ xs, cnt t.2.1 ≤ 1000000 ∧ cnt t.2.2 ≤ 1000000) ∧ cnt xs ≤ 1000000 ∧ us = [qsU xs] ∧ u = if xs = [] then nilU else qsU xs) [(33, ownQR)] (orc_cons ownQ_ok orc_nil) Tryz.func12 (by kernel_rfl) (by kernel_rfl) fun us u hR => by
 obtain ⟨xs, hb, hn, rfl, hu⟩ := hR
 obtain ⟨r, hr⟩ : ∃ r, (cnt xs).toNat < r := ⟨_, Nat.lt_succ_self _⟩
 refine ⟨r, fun C E hC => ?_⟩
 have kQ := hC 33 ownQR (by simp)
 have hm := fun i (h0 : 0 ≤ i) (h1 : i < cnt xs) => nth_map (c := xs) qU h0 h1
 have hc := cnt_map xs qU
 have hc0 := cnt0 xs
 unfold qsU at *
 generalize xs.map qU = cs at *
 clear hC
 cbv
 (repeat ((first | with_reducible refine ln fun _ _ _ => ?_ | refine tt ?_ | refine ff ?_ | with_reducible refine wr fun _ _ => ?_ | refine rp fun _ _ _ => ?_ | with_reducible refine bq ?_ | refine cl ?_ | refine sd ?_); cbv))
 refine lets [0, 3, 4] ?_
 cbv
 refine loop_inv (fun j a h => ∃ q : Int, 0 ≤ q ∧ q ≤ cnt xs ∧ j = (cnt xs - q).toNat ∧ ((q = 0 ∧ a = [.s 3 cs, .lost, .lost, nilU, ui q, .lost, .lost, .lost, .lost, .lost, .lost, .lost, .lost, .lost, .lost, .lost, .lost, .lost, .lost, .lost] ∧ h = []) ∨ (∃ (d : Int) (row : Rows), 1 ≤ q ∧ d = cnt row ∧ q ≤ d ∧ row.take q.toNat = cs.take q.toNat ∧ a = [.s 3 cs, .lost, .lost, .sl 0 q d 3, ui q, .lost, .lost, .lost, .lost, .lost, .lost, .lost, .lost, .lost, .lost, .lost, .lost, .lost, .lost, .lost] ∧ h = [some (.row 3 row)]))) ?_ r (cnt xs).toNat _ _ (by omega) ⟨0, by omega, by omega, by omega, .inl ⟨rfl, rfl, rfl⟩⟩
 rintro j a h K ⟨q, q0, q1, hj, hI⟩ hK
 rcases Decidable.em (q < cnt xs) with hlt | hlt
 ·obtain ⟨t, ht, hy⟩ := hm q q0 hlt
  have hbt := hb t (List.mem_of_getElem? ht)
  have hnx := take_next q0 hy
  have htk := cnt_take (cs := cs) q0 (by omega)
  have kq := kQ _ _ ⟨t, hbt.1, hbt.2, rfl, rfl⟩
  obtain ⟨s, l, dd⟩ := t
  have kq : C 33 [.agg [ub s, .l l, .l dd]] (.agg [ub s, .l l, .l dd]) := kq
  rcases hI with ⟨hq, rfl, rfl⟩ | ⟨d, row, hq, hd, hqd, hrow, rfl, rfl⟩
  ·cbv
   (repeat ((first | with_reducible refine ln fun _ _ _ => ?_ | refine tt ?_ | refine ff ?_ | with_reducible refine wr fun _ _ => ?_ | refine rp fun _ _ _ => ?_ | with_reducible refine bq ?_ | refine cl ?_ | refine sd ?_); cbv))
   refine el ?_ (by omega) hy
   cbv
   (repeat ((first | with_reducible refine ln fun _ _ _ => ?_ | refine tt ?_ | refine ff ?_ | with_reducible refine wr fun _ _ => ?_ | refine rp fun _ _ _ => ?_ | with_reducible refine bq ?_ | refine cl ?_ | refine sd ?_); cbv))
   refine sd ?_ (by unfold cnt; simp)
   intro nn cc zs e1 e2 e3
   have e1 : nn = q + 1 := by rw [hq]; exact e1
   have t1 : cc = cnt zs := by
    rw [e3]
    unfold cnt
    simp
    omega
   have t2 : zs.take (q + 1).toNat = cs.take (q + 1).toNat := by
    rw [hnx, hq, e3]
    rfl
   clear e3
   cbv
   (repeat ((first | with_reducible refine ln fun _ _ _ => ?_ | refine tt ?_ | refine ff ?_ | with_reducible refine wr fun _ _ => ?_ | refine rp fun _ _ _ => ?_ | with_reducible refine bq ?_ | refine cl ?_ | refine sd ?_); cbv))
   rename_i q' hq'
   refine letsA [0, 4] 3 0 ?_ (hj := by simp)
   exact hK (cnt xs - (q + 1)).toNat _ _ (by omega) ⟨q + 1, by omega, by omega, rfl, .inr ⟨cc, zs, by omega, t1, by omega, t2, by rw [hq', e1]; rfl, rfl⟩⟩
  ·cbv
   (repeat ((first | with_reducible refine ln fun _ _ _ => ?_ | refine tt ?_ | refine ff ?_ | with_reducible refine wr fun _ _ => ?_ | refine rp fun _ _ _ => ?_ | with_reducible refine bq ?_ | refine cl ?_ | refine sd ?_); cbv))
   refine el ?_ (by omega) hy
   cbv
   (repeat ((first | with_reducible refine ln fun _ _ _ => ?_ | refine tt ?_ | refine ff ?_ | with_reducible refine wr fun _ _ => ?_ | refine rp fun _ _ _ => ?_ | with_reducible refine bq ?_ | refine cl ?_ | refine sd ?_); cbv))
   refine sd ?_ ⟨by unfold cnt; simp, by unfold cnt; simp, by omega, hd⟩
   intro nn e1
   have e1 : nn = q + 1 := e1
   refine ⟨fun zs e2 e3 => ?_, fun cc zs e2 e3 e4 => ?_⟩
   ·have t1 : d = cnt zs := cnt_in (z := [ub s, .l l, .l dd]) q0 hd (by omega) e3
    have t2 : zs.take (q + 1).toNat = cs.take (q + 1).toNat := by rw [hnx]; exact take_row htk.symm hrow e3
    clear e3
    cbv
    (repeat ((first | with_reducible refine ln fun _ _ _ => ?_ | refine tt ?_ | refine ff ?_ | with_reducible refine wr fun _ _ => ?_ | refine rp fun _ _ _ => ?_ | with_reducible refine bq ?_ | refine cl ?_ | refine sd ?_); cbv))
    rename_i q' hq'
    refine letsA [0, 4] 3 0 ?_ (hj := by simp)
    exact hK (cnt xs - (q + 1)).toNat _ _ (by omega) ⟨q + 1, by omega, by omega, rfl, .inr ⟨d, zs, by omega, t1, by omega, t2, by rw [hq', e1]; rfl, rfl⟩⟩
   ·have t1 : cc = cnt zs := cnt_new (z := [ub s, .l l, .l dd]) q0 hd hqd (by omega) e4
    have t2 : zs.take (q + 1).toNat = cs.take (q + 1).toNat := by rw [hnx]; exact take_row htk.symm hrow e4
    clear e4
    cbv
    (repeat ((first | with_reducible refine ln fun _ _ _ => ?_ | refine tt ?_ | refine ff ?_ | with_reducible refine wr fun _ _ => ?_ | refine rp fun _ _ _ => ?_ | with_reducible refine bq ?_ | refine cl ?_ | refine sd ?_); cbv))
    rename_i q' hq'
    refine letsA [0, 4] 3 1 ?_ (hj := by simp)
    exact hK (cnt xs - (q + 1)).toNat _ _ (by omega) ⟨q + 1, by omega, by omega, rfl, .inr ⟨cc, zs, by omega, t1, by omega, t2, by rw [hq', e1]; rfl, rfl⟩⟩
 ·rcases hI with ⟨hq, rfl, rfl⟩ | ⟨d, row, hq, hd, hqd, hrow, rfl, rfl⟩
  ·have hxe : xs = [] := List.eq_nil_of_length_eq_zero (by unfold cnt at *; omega)
   rw [if_pos hxe] at hu
   clear hK hm
   cbv
   (repeat ((first | with_reducible refine ln fun _ _ _ => ?_ | refine tt ?_ | refine ff ?_ | with_reducible refine wr fun _ _ => ?_ | refine rp fun _ _ _ => ?_ | with_reducible refine bq ?_ | refine cl ?_ | refine sd ?_); cbv))
   exact hu.symm
  ·have hqx : q = cnt xs := by omega
   rw [if_neg (fun e => by rw [e] at hqx; have : cnt ([] : List R3) = 0 := rfl; omega)] at hu
   have hcs : cs.take q.toNat = cs := List.take_of_length_le (by unfold cnt at *; omega)
   rw [hcs] at hrow
   clear hK hm
   cbv
   (repeat ((first | refine ln fun _ _ _ => ?_ | refine tt ?_ | refine ff ?_ | refine wr fun _ _ => ?_ | refine rp fun _ _ _ => ?_ | with_reducible refine bq ?_ | refine cl ?_ | refine sd ?_ | intro _ _); cbv))
   rename_i ys e
   rw [hu, e, hrow]) fun us u ⟨xs, h1, h2, h3, h4⟩ => by
 refine ⟨us, _, ⟨xs, h1, h2, h3, rfl⟩, eqs_refl _, ?_⟩
 rw [h4]
 split
 ·rename_i h
  rw [h]
  exact .inr ⟨rfl, 3, rfl⟩
 ·exact .inl rfl
theorem term_ab {t : Tm} {i : Int} (h : termOk t i = true) (hi : 0 ≤ i) : (0 ≤ t.a ∧ t.a ≤ i) ∧ 0 ≤ t.b ∧ t.b ≤ i := by
 rcases termOk_iff.1 h with h | ⟨_, _, _, _, h | h | h | h⟩ <;> omega
theorem one_ev {t : Tm} {vs xs : List R3} {i : Int} (ht : termOk t i = true) (hx : xs.all goodB = true) (hn : t.k = 2 → t.n < cnt xs) : oneS t (at3 vs t.a) (at3 vs t.b) xs = evT vs xs t := by
 unfold oneS evT
 by_cases h1 : t.k = 1
 ·rw [if_pos h1, if_pos h1]
  rcases termOk_iff.1 ht with h | h
  ·rw [own_good h.2.2.2.2]
  ·exact absurd h1 h.1
 rw [if_neg h1, if_neg h1]
 by_cases h2 : t.k = 2
 ·rw [if_pos h2, if_pos h2]
  have h0 : 0 ≤ t.n := by
   rcases term_cases ht with h | h | h | h | h <;> omega
  have hl := hn h2
  unfold cnt at hl
  have : at3 xs t.n = xs[t.n.toNat]'(by omega) := by
   unfold at3
   rw [List.getElem?_eq_getElem (by omega)]
   rfl
  rw [this, own_good (List.all_eq_true.1 hx _ (List.getElem_mem _))]
 ·rw [if_neg h2, if_neg h2]
theorem rv_at {vs : List R3} {i a : Int} (h0 : 0 ≤ a) (h1 : a ≤ i) (h2 : i < cnt vs) : ((vs.take (i + 1).toNat).map qU)[a.toNat]? = some (qU (at3 vs a)) := by
 unfold cnt at h2
 have : at3 vs a = vs[a.toNat]'(by omega) := by
  unfold at3
  rw [List.getElem?_eq_getElem (by omega)]
  rfl
 rw [this, List.getElem?_map, List.getElem?_take, if_pos (by omega), List.getElem?_eq_getElem (by omega)]
 rfl
theorem bad_lim {q : Rat} (h : (lim q).2.2.2 ≠ 0) : lim q = bad (lim q).2.2.2 := by
 unfold lim at *
 split at h
 ·exact absurd rfl h
 ·rename_i h1
  rw [if_neg h1]
  rfl
theorem ev_bad (vs xs : List R3) (t : Tm) (h : (evT vs xs t).2.2.2 ≠ 0) : evT vs xs t = bad (evT vs xs t).2.2.2 := by
 unfold evT addS subS mulS divS powS at *
 repeat' split at h
 all_goals first | exact absurd rfl h | (simp only [*, if_true, if_false, Bool.false_eq_true]; first | exact bad_lim h | rfl)
def of20R (us : List U) (u : U) : Prop := ∃ c i xs, (∀ t ∈ c, LB t.q) ∧ cnt c ≤ 1000000 ∧ (∀ a ∈ xs, LB a) ∧ cnt xs ≤ 1000000 ∧ us = [cU c, ui i, qsU xs] ∧ u = u76 (ofS c i xs)
theorem of20_ok : SoundF Tryz.prog 14 of20R := sound [(25, mayR), (21, needsR), (29, oneR)] (orc_cons may_ok (orc_cons needs20_ok (orc_cons one_ok orc_nil))) Tryz.func14 (by kernel_rfl) (by kernel_rfl) fun us u hR => by
 obtain ⟨c, i, xs, hq, hn, hx, hxn, rfl, hu⟩ := hR
 obtain ⟨r, hr⟩ : ∃ r, (cnt c).toNat + 10 < r := ⟨_, Nat.lt_succ_self _⟩
 refine ⟨r, fun C E hC => ?_⟩
 have kM := hC 25 mayR (by simp) _ _ ⟨c, i, xs, hq, hn, hx, hxn, rfl, rfl⟩
 have kN := hC 21 needsR (by simp) _ _ ⟨c, i, hq, hn, rfl, rfl⟩
 have kO := hC 29 oneR (by simp)
 have hcn := fun i (h0 : 0 ≤ i) (h1 : i < cnt c) => nth_map (c := c) tU h0 h1
 have hc := cnt_map c tU
 have hc0 := cnt0 c
 have hLv := LB_evN c xs (needs c i.toNat)
 have hlen := evN_len c xs (needs c i.toNat)
 have hnl := needs_len c i.toNat
 have hno := fun q vs => ev_no (c := c) (xs := xs) (nd := needs c i.toNat) (q := q) (vs := vs)
 have hmb : madeB c i xs = true → mayC c i = true ∧ refsB c (needs c i.toNat) (cnt xs) = true ∧ xs.all goodB = true ∧ 0 ≤ i ∧ i < cnt c ∧ goodC c = true := fun h => by
  unfold madeB mayC at h
  simp only [Bool.and_eq_true, decide_eq_true_eq] at h
  exact ⟨by unfold mayC; simp only [Bool.and_eq_true, decide_eq_true_eq]; exact h.1.1, h.2, h.1.2, h.1.1.1.1, h.1.1.1.2, h.1.1.2⟩
 unfold ofS at hu
 unfold needsU at kN
 unfold cU at kM kN ⊢
 obtain ⟨ys, hys⟩ : ∃ ys, qsU xs = .s 3 ys := ⟨_, rfl⟩
 rw [hys] at kM ⊢
 generalize c.map tU = cs at *
 cases hm : madeB c i xs
 ·rw [hm] at kM hu
  rw [if_neg (by simp), show u76 (bad 1) = .agg [ub false, .l [], .l [], ui 1] from rfl] at hu
  clear hcn hLv hlen hno hmb kO kN
  cbv
  (repeat ((first | with_reducible refine ln fun _ _ _ => ?_ | refine tt ?_ | refine ff ?_ | with_reducible refine wr fun _ _ => ?_ | refine rp fun _ _ _ => ?_ | with_reducible refine bq ?_ | refine cl ?_ | refine sd ?_); cbv))
  exact hu.symm
 rw [hm] at kM hu
 rw [if_pos rfl] at hu
 obtain ⟨hmay, hrf, hxg, hi0, hi1, hgc⟩ := hmb hm
 rw [if_pos hmay] at kN
 have hok : ∀ (q : Int) t, 0 ≤ q → c[q.toNat]? = some t → termOk t q = true := fun q t h0 ht => by
  have := goodC_iff.1 hgc q.toNat t ht
  rwa [show (q.toNat : Int) = q by omega] at this
 have hrefs : ∀ (q : Int) t, 0 ≤ q → c[q.toNat]? = some t → (needs c i.toNat)[q.toNat]? = some true → t.k = 2 → t.n < cnt xs := fun q t h0 ht hb => refs_iff.1 hrf q.toNat t ht hb
 clear hmb hmay hrf hgc hm hC
 generalize needs c i.toNat = nd at *
 have hnx := fun j (h0 : 0 ≤ j) (h1 : j < cnt nd) => uB_nth (s := nd) h0 h1
 generalize uB nd = nds at *
 cbv
 (repeat ((first | with_reducible refine ln fun _ _ _ => ?_ | refine tt ?_ | refine ff ?_ | with_reducible refine wr fun _ _ => ?_ | refine rp fun _ _ _ => ?_ | with_reducible refine bq ?_ | refine cl ?_ | refine sd ?_); cbv))
 rename_i n hn1 rs hrs hrc
 have e0 : rs = ((List.replicate c.length none3).take (i + 1).toNat).map qU := by
  rw [hrs, List.take_replicate, List.map_replicate]
  unfold cnt at hi1
  rw [show min (i + 1).toNat c.length = n.toNat by omega]
  rfl
 clear hrs
 refine lets [0, 1, 2, 6, 7, 8, 9] ?_
 cbv
 refine loop_inv (fun j a h => ∃ (q : Int) (vs : List R3) (vr : Rows), 0 ≤ q ∧ q ≤ i + 1 ∧ j = (i + 1 - q).toNat ∧ evN c xs nd q.toNat = (vs, 0) ∧ vr = (vs.take (i + 1).toNat).map qU ∧ a = [.s 7 cs, ui i, .s 3 ys, .lost, .lost, .lost, .ptr 0 0, .s 1 nds, .sl 1 n n 3, ui q, .lost, .lost, .lost, .lost, .lost, .lost, .lost, .lost, .lost, .lost, .lost, .lost, .lost, .lost, .lost, .lost, .lost, .lost, .lost, .lost, .lost, .lost, .lost, .lost, .lost, .lost, .lost, .lost, .lost, .lost, .lost, .lost, .lost, .lost, .lost, .lost, .lost, .lost, .lost, .lost, .lost, .lost, .lost, .lost, .lost, .lost, .lost, .lost, .lost, .lost, .lost, .lost, .lost, .lost, .lost, .lost, .lost, .lost, .lost] ∧ h = [some (.cells [ub false, .l [], .l [], ui 0]), some (.row 3 vr)]) ?_ r (i + 1).toNat _ _ (by omega) ⟨0, List.replicate c.length none3, rs, by omega, by omega, by omega, rfl, e0, rfl, rfl⟩
 rintro j a h K ⟨q, vs, vr, q0, q1, hj, hev, hvr, rfl, rfl⟩ hK
 have hvl : cnt vs = cnt c := by
  have := hlen q.toNat
  rw [hev] at this
  unfold cnt
  rw [this]
 rcases Decidable.em (q ≤ i) with hlt | hlt
 ·obtain ⟨b, hb, hz⟩ := hnx q q0 (by omega)
  cases b
  ·have hnext := hno q vs q0 hev hb
   clear hcn hLv hlen hno hok hrefs hnx kO
   cbv
   (repeat ((first | with_reducible refine ln fun _ _ _ => ?_ | refine tt ?_ | refine ff ?_ | with_reducible refine wr fun _ _ => ?_ | refine rp fun _ _ _ => ?_ | with_reducible refine bq ?_ | refine cl ?_ | refine sd ?_); cbv))
   refine el ?_ (by omega) hz
   cbv
   (repeat ((first | with_reducible refine ln fun _ _ _ => ?_ | refine tt ?_ | refine ff ?_ | with_reducible refine wr fun _ _ => ?_ | refine rp fun _ _ _ => ?_ | with_reducible refine bq ?_ | refine cl ?_ | refine sd ?_); cbv))
   rename_i q' hq'
   refine lets [0, 1, 2, 6, 7, 8, 9] ?_
   exact hK (i + 1 - (q + 1)).toNat _ _ (by omega) ⟨q + 1, vs, vr, by omega, by omega, rfl, hnext, hvr, by rw [hq']; rfl, rfl⟩
  ·obtain ⟨t, ht, hy⟩ := hcn q q0 (by omega)
   have hvL : ∀ a ∈ vs, LB a := by
    have := hLv q.toNat
    rw [hev] at this
    exact this
   have htk := hok q t q0 ht
   have hnr := hrefs q t q0 ht hb
   obtain ⟨⟨a0, a1⟩, b0, b1⟩ := term_ab htk q0
   have k1 := kO _ _ ⟨t, q, at3 vs t.a, at3 vs t.b, xs, htk, hnr, LB_at hvL _, LB_at hvL _, rfl, rfl⟩
   rw [one_ev htk hxg hnr, hys] at k1
   have wa := rv_at (vs := vs) (i := i) a0 (by omega) (by omega)
   have wb := rv_at (vs := vs) (i := i) b0 (by omega) (by omega)
   have wq := rv_at (vs := vs) (i := i) q0 (by omega) (by omega)
   rw [← hvr] at wa wb wq
   obtain ⟨s7, l7, d7, e7, ek⟩ : ∃ s l d e, (s, l, d, e) = evT vs xs t := ⟨_, _, _, _, rfl⟩
   rw [← ek] at k1
   have hnext := ev_yes q0 hev hb ht ek
   generalize at3 vs t.a = va at *
   generalize at3 vs t.b = vb at *
   generalize at3 vs q = vq at *
   obtain ⟨sa, la, da⟩ := va
   obtain ⟨sb, lb, db⟩ := vb
   obtain ⟨sq, lq, dq⟩ := vq
   obtain ⟨kd, ta, tb, m, s, l, d⟩ := t
   dsimp only at a0 a1 b0 b1 wa wb
   have ekk := ek
   have k1 : C 29 [.agg [ui kd, ui ta, ui tb, ui m, ub s, .l l, .l d], .agg [ub sa, .l la, .l da], .agg [ub sb, .l lb, .l db], .s 3 ys] (.agg [ub s7, .l l7, .l d7, ui e7]) := k1
   clear hcn hLv hlen hno hok hrefs hnx kO hvL htk hnr ek
   cbv
   (repeat ((first | with_reducible refine ln fun _ _ _ => ?_ | refine tt ?_ | refine ff ?_ | with_reducible refine wr fun _ _ => ?_ | refine rp fun _ _ _ => ?_ | with_reducible refine bq ?_ | refine cl ?_ | refine sd ?_); cbv))
   refine el ?_ (by omega) hz
   cbv
   (repeat ((first | with_reducible refine ln fun _ _ _ => ?_ | refine tt ?_ | refine ff ?_ | with_reducible refine wr fun _ _ => ?_ | refine rp fun _ _ _ => ?_ | with_reducible refine bq ?_ | refine cl ?_ | refine sd ?_); cbv))
   refine el ?_ (by omega) hy
   cbv
   (repeat ((first | with_reducible refine ln fun _ _ _ => ?_ | refine tt ?_ | refine ff ?_ | with_reducible refine wr fun _ _ => ?_ | refine rp fun _ _ _ => ?_ | with_reducible refine bq ?_ | refine cl ?_ | refine sd ?_); cbv))
   refine el ?_ (by omega) hy
   cbv
   (repeat ((first | with_reducible refine ln fun _ _ _ => ?_ | refine tt ?_ | refine ff ?_ | with_reducible refine wr fun _ _ => ?_ | refine rp fun _ _ _ => ?_ | with_reducible refine bq ?_ | refine cl ?_ | refine sd ?_); cbv))
   refine el ?_ (by omega) wa
   cbv
   (repeat ((first | with_reducible refine ln fun _ _ _ => ?_ | refine tt ?_ | refine ff ?_ | with_reducible refine wr fun _ _ => ?_ | refine rp fun _ _ _ => ?_ | with_reducible refine bq ?_ | refine cl ?_ | refine sd ?_); cbv))
   refine el ?_ (by omega) hy
   cbv
   (repeat ((first | with_reducible refine ln fun _ _ _ => ?_ | refine tt ?_ | refine ff ?_ | with_reducible refine wr fun _ _ => ?_ | refine rp fun _ _ _ => ?_ | with_reducible refine bq ?_ | refine cl ?_ | refine sd ?_); cbv))
   refine el ?_ (by omega) wb
   cbv
   rcases Decidable.em (e7 = 0) with h0 | h0
   ·subst h0
    rw [if_pos rfl] at hnext
    (repeat ((first | with_reducible refine ln fun _ _ _ => ?_ | refine tt ?_ | refine ff ?_ | with_reducible refine wr fun _ _ => ?_ | refine rp fun _ _ _ => ?_ | with_reducible refine bq ?_ | refine cl ?_ | refine sd ?_); cbv))
    refine el ?_ (by omega) wq
    cbv
    refine se fun zs he' hyc => ?_
    have e2 : zs = ((vs.set q.toNat (s7, l7, d7)).take (i + 1).toNat).map qU := by rw [he', List.take_set, List.map_set, ← hvr]; rfl
    clear he' hyc
    cbv
    (repeat ((first | with_reducible refine ln fun _ _ _ => ?_ | refine tt ?_ | refine ff ?_ | with_reducible refine wr fun _ _ => ?_ | refine rp fun _ _ _ => ?_ | with_reducible refine bq ?_ | refine cl ?_ | refine sd ?_); cbv))
    rename_i q' hq'
    refine lets [0, 1, 2, 6, 7, 8, 9] ?_
    exact hK (i + 1 - (q + 1)).toNat _ _ (by omega) ⟨q + 1, _, zs, by omega, by omega, rfl, hnext, e2, by rw [hq']; rfl, rfl⟩
   ·rw [if_neg h0] at hnext
    rw [ev_err q0 (by omega) h0 hnext, if_neg h0] at hu
    have hbd : (s7, l7, d7, e7) = bad e7 := by
     have := ev_bad vs xs ⟨kd, ta, tb, m, (s, l, d)⟩
     rw [← ekk] at this
     exact this h0
    injection hbd with f1 f2
    injection f2 with f2 f3
    injection f3 with f3 f4
    subst f1 f2 f3
    have hu : u = .agg [ub false, .l [], .l [], ui e7] := hu
    clear hnext hK
    (repeat ((first | with_reducible refine ln fun _ _ _ => ?_ | refine tt ?_ | refine ff ?_ | with_reducible refine wr fun _ _ => ?_ | refine rp fun _ _ _ => ?_ | with_reducible refine bq ?_ | refine cl ?_ | refine sd ?_); cbv))
    exact hu.symm
 ·rw [show q.toNat = i.toNat + 1 by omega] at hev
  have wq := rv_at (vs := vs) (i := i) hi0 (by omega) (by omega)
  rw [← hvr] at wq
  rw [hev, if_pos rfl] at hu
  obtain ⟨s1, l1, d1, e1⟩ : ∃ s l d, at3 vs i = (s, l, d) := ⟨_, _, _, rfl⟩
  rw [e1] at hu wq
  have hu : u = .agg [ub s1, .l l1, .l d1, ui 0] := hu
  clear hcn hLv hlen hno hok hrefs hnx hK kO
  cbv
  (repeat ((first | with_reducible refine ln fun _ _ _ => ?_ | refine tt ?_ | refine ff ?_ | with_reducible refine wr fun _ _ => ?_ | refine rp fun _ _ _ => ?_ | with_reducible refine bq ?_ | refine cl ?_ | refine sd ?_); cbv))
  refine el ?_ (by omega) wq
  cbv
  (repeat ((first | with_reducible refine ln fun _ _ _ => ?_ | refine tt ?_ | refine ff ?_ | with_reducible refine wr fun _ _ => ?_ | refine rp fun _ _ _ => ?_ | with_reducible refine bq ?_ | refine cl ?_ | refine sd ?_); cbv))
  exact hu.symm
def quotC : List Tm := [⟨2, 0, 0, 0, none3⟩, ⟨2, 0, 0, 1, none3⟩, ⟨6, 0, 1, 0, none3⟩, ⟨1, 0, 0, 0, ratOf 1⟩, ⟨4, 2, 3, 0, none3⟩]
def quotR (us : List U) (u : U) : Prop := us = [] ∧ u = cU quotC
theorem by_q {C : Orc} (h : Told C 24 byR) (a b : Int) (q : Rat) (h0 : -9223372036854775808 ≤ a ∧ a ≤ 9223372036854775807 ∧ 0 < b ∧ b ≤ 9223372036854775807) (hq : (a : Rat) / (b : Rat) = q) (hf : fits q = true) : ∃ s l d, C 24 [ui a, ui b] (.agg [ub s, .l l, .l d]) ∧ (s, l, d) = ratOf q := by
 subst hq
 exact tR (h _ _ ⟨a, b, h0.1, h0.2.1, h0.2.2.1, h0.2.2.2, hf, rfl, rfl⟩)
theorem quot_ok : SoundF Tryz.prog 32 quotR := sound [(24, byR)] (orc_cons by_ok orc_nil) Tryz.func32 (by kernel_rfl) (by kernel_rfl) fun us u hR => ⟨0, fun C E hC => by
 obtain ⟨rfl, hu⟩ := hR
 obtain ⟨s, l, d, k1, e⟩ := by_q (hC 24 byR (by simp)) 1 1 1 (by decide) (by decide +kernel) (by decide +kernel)
 have hu : u = .s 7 [[ui 2, ui 0, ui 0, ui 0, ub false, .l [], .l []], [ui 2, ui 0, ui 0, ui 1, ub false, .l [], .l []], [ui 6, ui 0, ui 1, ui 0, ub false, .l [], .l []], [ui 1, ui 0, ui 0, ui 0, ub s, .l l, .l d], [ui 4, ui 2, ui 3, ui 0, ub false, .l [], .l []]] := by
  rw [hu]
  unfold cU quotC
  rw [← e]
  rfl
 clear e
 cbv; (repeat ((first | refine ln fun _ _ _ => ?_ | refine tt ?_ | refine ff ?_ | refine wr fun _ _ => ?_ | refine rp fun _ _ _ => ?_ | with_reducible refine bq ?_ | refine cl ?_ | refine sd ?_ | intro _ _); cbv)); exact hu.symm⟩
def ofR' (us : List U) (u : U) : Prop := ∃ c i xs x, (∀ t ∈ c, LB t.q) ∧ cnt c ≤ 1000000 ∧ (∀ a ∈ xs, LB a) ∧ cnt xs ≤ 1000000 ∧ nilEq x (qsU xs) ∧ us = [cU c, ui i, x] ∧ u = uR4 (ofS c i xs)
theorem of_ok' : SoundF Tryz.prog 13 ofR' := relax of_ok fun us u ⟨c, i, xs, x, h1, h2, h3, h4, h5, h6, h7⟩ => ⟨_, u, ⟨c, i, xs, h1, h2, h3, h4, rfl, h7⟩, by rw [h6]; exact ⟨.inl rfl, .inl rfl, h5, trivial⟩, .inl rfl⟩
theorem LB_q {q : Rat} (h : fits q = true) : LB (ratOf q) := (LR_ratOf h).wide
theorem quot_LB : ∀ t ∈ quotC, LB t.q := fun t h => by
 unfold quotC at h
 simp only [List.mem_cons, List.not_mem_nil, or_false] at h
 rcases h with rfl | rfl | rfl | rfl | rfl <;> first | exact LB_none | exact LB_q fits_one
theorem w1 : ofS quotC 4 [ratOf 3, ratOf 2] = to4 (ratOf (1 / 2)) := by decide +kernel
theorem w2 : ofS quotC 4 [ratOf 3, ratOf 0] = bad 3 := by decide +kernel
theorem w3 : ofS quotC 4 [ratOf 3] = bad 1 := by decide +kernel
theorem w4 : ofS quotC 3 [] = to4 (ratOf 1) := by decide +kernel
theorem w5 : ofS quotC 5 [ratOf 3, ratOf 2] = bad 1 := by decide +kernel
theorem w6 : divS' quotC 4 [ratOf 3, ratOf 2] = ([1], 0) := by decide +kernel
theorem w7 : mayC quotC 2 = true ∧ needs quotC 2 = [true, true, true, false, false] := by decide +kernel
def yesR (us : List U) (u : U) : Prop := us = [] ∧ u = ub true
theorem wakes_ok : SoundF Tryz.prog 10 yesR := sound [(24, byR), (32, quotR), (13, ofR'), (15, divR), (20, needsR), (17, keepR), (18, keepIntsR), (19, keepBoolsR)] (orc_cons by_ok (orc_cons quot_ok (orc_cons of_ok' (orc_cons div_ok (orc_cons needs_ok (orc_cons keep_ok (orc_cons keepInts_ok (orc_cons keepBools_ok orc_nil)))))))) Tryz.func10 (by kernel_rfl) (by kernel_rfl) fun us u hR => ⟨0, fun C E hC => by
 obtain ⟨rfl, hu⟩ := hR
 have kb := hC 24 byR (by simp)
 obtain ⟨s3, l3, d3, b3, e3⟩ := by_q kb 3 1 3 (by decide) (by decide +kernel) (by decide +kernel)
 obtain ⟨s2, l2, d2, b2, e2⟩ := by_q kb 2 1 2 (by decide) (by decide +kernel) (by decide +kernel)
 obtain ⟨s0, l0, d0, b0, e0⟩ := by_q kb 0 1 0 (by decide) (by decide +kernel) (by decide +kernel)
 obtain ⟨sh, lh, dh, bh, eh⟩ := by_q kb 1 2 (1 / 2) (by decide) (by decide +kernel) (by decide +kernel)
 obtain ⟨s1, l1, d1, b1, e1⟩ := by_q kb 1 1 1 (by decide) (by decide +kernel) (by decide +kernel)
 have kq := hC 32 quotR (by simp) _ _ ⟨rfl, rfl⟩
 have L3 : LB (s3, l3, d3) := e3 ▸ LB_q (by decide +kernel)
 have L2 : LB (s2, l2, d2) := e2 ▸ LB_q (by decide +kernel)
 have L0 : LB (s0, l0, d0) := e0 ▸ LB_q (by decide +kernel)
 have L32 : ∀ a ∈ [(s3, l3, d3), (s2, l2, d2)], LB a := by simp [L3, L2]
 have c5 : cnt quotC ≤ 1000000 := by decide
 have cc : ∀ a b : R3, cnt [a, b] ≤ 1000000 := fun _ _ => by unfold cnt; simp
 have c1 : ∀ a : R3, cnt [a] ≤ 1000000 := fun _ => by unfold cnt; simp
 have o1 := hC 13 ofR' (by simp) _ _ ⟨quotC, 4, [(s3, l3, d3), (s2, l2, d2)], _, quot_LB, c5, L32, cc _ _, .inl rfl, rfl, rfl⟩
 have o2 := hC 13 ofR' (by simp) _ _ ⟨quotC, 4, [(s3, l3, d3), (s0, l0, d0)], _, quot_LB, c5, by simp [L3, L0], cc _ _, .inl rfl, rfl, rfl⟩
 have o3 := hC 13 ofR' (by simp) _ _ ⟨quotC, 4, [(s3, l3, d3)], _, quot_LB, c5, by simp [L3], c1 _, .inl rfl, rfl, rfl⟩
 have o4 := hC 13 ofR' (by simp) _ _ ⟨quotC, 3, [], nilU, quot_LB, c5, by simp, by decide, .inr ⟨rfl, 3, rfl⟩, rfl, rfl⟩
 have o5 := hC 13 ofR' (by simp) _ _ ⟨quotC, 5, [(s3, l3, d3), (s2, l2, d2)], _, quot_LB, c5, L32, cc _ _, .inl rfl, rfl, rfl⟩
 have o6 := hC 15 divR (by simp) _ _ ⟨quotC, 4, [(s3, l3, d3), (s2, l2, d2)], quot_LB, c5, L32, cc _ _, rfl, rfl⟩
 have o7 := hC 20 needsR (by simp) _ _ ⟨quotC, 2, quot_LB, c5, rfl, rfl⟩
 rw [show ofS quotC 4 [(s3, l3, d3), (s2, l2, d2)] = (sh, lh, dh, 0) by rw [e3, e2, w1, ← eh]; rfl] at o1
 rw [show ofS quotC 4 [(s3, l3, d3), (s0, l0, d0)] = bad 3 by rw [e3, e0, w2]] at o2
 rw [show ofS quotC 4 [(s3, l3, d3)] = bad 1 by rw [e3, w3]] at o3
 rw [show ofS quotC 3 [] = (s1, l1, d1, 0) by rw [w4, ← e1]; rfl] at o4
 rw [show ofS quotC 5 [(s3, l3, d3), (s2, l2, d2)] = bad 1 by rw [e3, e2, w5]] at o5
 rw [show divS' quotC 4 [(s3, l3, d3), (s2, l2, d2)] = ([1], 0) by rw [e3, e2, w6]] at o6
 unfold needsU at o7
 rw [if_pos w7.1, show (2 : Int).toNat = 2 by rfl, w7.2] at o7
 have r1 := hC 17 keepR (by simp) _ _ ⟨(sh, lh, dh), (sh, lh, dh), by rw [eh]; decide +kernel, by rw [eh]; decide +kernel, rfl, rfl⟩
 have r2 := hC 17 keepR (by simp) _ _ ⟨(s1, l1, d1), (s1, l1, d1), by rw [e1]; decide +kernel, by rw [e1]; decide +kernel, rfl, rfl⟩
 have r3 := hC 18 keepIntsR (by simp) _ _ ⟨[1], [1], by decide, rfl, rfl⟩
 have r4 := hC 19 keepBoolsR (by simp) _ _ ⟨[true, true, true, false, false], [true, true, true, false, false], by decide, rfl, rfl⟩
 rw [decide_eq_true rfl] at r1 r2 r3 r4
 obtain ⟨cs, hcs⟩ : ∃ cs, cU quotC = .s 7 cs := ⟨_, rfl⟩
 rw [hcs] at o1 o2 o3 o4 o5 o6 o7 kq
 have o1 : C 13 [.s 7 cs, ui 4, .s 3 [[ub s3, .l l3, .l d3], [ub s2, .l l2, .l d2]]] (.tup [.agg [ub sh, .l lh, .l dh], ui 0]) := o1
 have o2 : C 13 [.s 7 cs, ui 4, .s 3 [[ub s3, .l l3, .l d3], [ub s0, .l l0, .l d0]]] (.tup [.agg [ub false, .l [], .l []], ui 3]) := o2
 have o3 : C 13 [.s 7 cs, ui 4, .s 3 [[ub s3, .l l3, .l d3]]] (.tup [.agg [ub false, .l [], .l []], ui 1]) := o3
 have o4 : C 13 [.s 7 cs, ui 3, nilU] (.tup [.agg [ub s1, .l l1, .l d1], ui 0]) := o4
 have o5 : C 13 [.s 7 cs, ui 5, .s 3 [[ub s3, .l l3, .l d3], [ub s2, .l l2, .l d2]]] (.tup [.agg [ub false, .l [], .l []], ui 1]) := o5
 have o6 : C 15 [.s 7 cs, ui 4, .s 3 [[ub s3, .l l3, .l d3], [ub s2, .l l2, .l d2]]] (.tup [.s 1 [[ui 1]], ui 0]) := o6
 have o7 : C 20 [.s 7 cs, ui 2] (.s 1 [[ub true], [ub true], [ub true], [ub false], [ub false]]) := o7
 have r1 : C 17 [.agg [ub sh, .l lh, .l dh], .agg [ub sh, .l lh, .l dh]] (ub true) := r1
 have r2 : C 17 [.agg [ub s1, .l l1, .l d1], .agg [ub s1, .l l1, .l d1]] (ub true) := r2
 have r3 : C 18 [.s 1 [[ui 1]], .s 1 [[ui 1]]] (ub true) := r3
 have r4 : C 19 [.s 1 [[ub true], [ub true], [ub true], [ub false], [ub false]], .s 1 [[ub true], [ub true], [ub true], [ub false], [ub false]]] (ub true) := r4
 clear kb hC L3 L2 L0 L32 cc c1 c5 hcs e0 e1 e2 e3 eh
 cbv
 (repeat ((first | with_reducible refine ln fun _ _ _ => ?_ | refine tt ?_ | refine ff ?_ | with_reducible refine wr fun _ _ => ?_ | refine rp fun _ _ _ => ?_ | with_reducible refine bq ?_ | refine cl ?_ | refine sd ?_); cbv))
 refine el (us := [ub s3, .l l3, .l d3]) ?_ (by decide) rfl
 cbv
 (repeat ((first | with_reducible refine ln fun _ _ _ => ?_ | refine tt ?_ | refine ff ?_ | with_reducible refine wr fun _ _ => ?_ | refine rp fun _ _ _ => ?_ | with_reducible refine bq ?_ | refine cl ?_ | refine sd ?_); cbv))
 refine sd ?_ (by unfold cnt; simp)
 intro ys hys
 obtain rfl : ys = [[ub s3, .l l3, .l d3]] := hys
 cbv
 (repeat ((first | with_reducible refine ln fun _ _ _ => ?_ | refine tt ?_ | refine ff ?_ | with_reducible refine wr fun _ _ => ?_ | refine rp fun _ _ _ => ?_ | with_reducible refine bq ?_ | refine cl ?_ | refine sd ?_); cbv))
 exact hu.symm⟩
theorem relaxG {P : Program} {f : FuncId} {R R' : List U → U → Prop} (hs : SoundF P f R) (h : ∀ us u, R' us u → ∃ us' u', R us' u' ∧ nilEqs us us' ∧ ∀ ok W v, Rep ok W noM u' v → Rep ok W noM u v) : SoundF P f R' := fun us u hR => by
 obtain ⟨us', u', h1, h2, h3⟩ := h us u hR
 obtain ⟨hb, hc⟩ := hs us' u' h1
 refine ⟨hb, fun W S cs hr => ?_⟩
 exact (hc W S cs (nilEqs_reps h2 hr)).mono fun e W' ⟨v, e1, e2, e3⟩ => ⟨v, e1, h3 _ _ _ e2, e3⟩
def divR' (us : List U) (u : U) : Prop := ∃ c i xs, (∀ t ∈ c, LB t.q) ∧ cnt c ≤ 1000000 ∧ (∀ a ∈ xs, LB a) ∧ cnt xs ≤ 1000000 ∧ us = [cU c, ui i, qsU xs] ∧ u = .tup [.s 1 (uis (divS' c i xs).1), ui (divS' c i xs).2]
theorem div_ok' : SoundF Tryz.prog 15 divR' := relaxG div_ok fun us u ⟨c, i, xs, h1, h2, h3, h4, h5, h6⟩ => by
 refine ⟨us, _, ⟨c, i, xs, h1, h2, h3, h4, h5, rfl⟩, eqs_refl _, ?_⟩
 rw [h6]
 split
 ·rename_i h
  rw [h]
  rintro ok W v ⟨vs, e, hr⟩
  exact ⟨vs, e, nilEqs_reps (us := [nilU, ui (divS' c i xs).2]) ⟨.inr ⟨rfl, 1, rfl⟩, .inl rfl, trivial⟩ hr⟩
 ·exact fun _ _ _ h => h
structure Asked (c : List Tm) (i : Int) (nd bs : List Bool) : Prop where
 nl : cnt nd = cnt c
 bl : cnt bs = cnt c
 root : nd[i.toNat]? = some true
 mem : ∀ q : Int, 0 ≤ q → q ≤ i → (bs[q.toNat]? = some true ↔ ∃ (j : Int) (t : Tm), q < j ∧ j ≤ i ∧ nd[j.toNat]? = some true ∧ c[j.toNat]? = some t ∧ byI t q)
 nd : ∀ q : Int, 0 ≤ q → bs[q.toNat]? = some true → nd[q.toNat]? = some true
 all : picks bs (i + 1).toNat = picks bs c.length
theorem asked_of {c : List Tm} {i : Int} (h0 : 0 ≤ i) (h1 : i < cnt c) (hg : goodC c = true) : Asked c i (needs c i.toNat) (divM c (needs c i.toNat) c.length) := by
 have ha := ahead_of hg
 have key : ∀ q : Nat, (divM c (needs c i.toNat) c.length)[q]? = some true → ∃ (j : Nat) (t : Tm), q < j ∧ (j : Int) ≤ i ∧ (needs c i.toNat)[j]? = some true ∧ c[j]? = some t ∧ byI t q := fun q h => by
  have hq : q < c.length := by
   have := (List.getElem?_eq_some_iff.1 h).1
   have h2 := cnt_eq (divM_len c (needs c i.toNat) c.length)
   omega
  obtain ⟨j, t, _, h3, h4, h5⟩ := (divM_true ha hq _).1 h
  have := ha j t h4 q (byI_kid h5)
  have := needs_le ha h3
  exact ⟨j, t, by omega, by omega, h3, h4, h5⟩
 refine ⟨needs_len _ _, divM_len _ _ _, needs_root h0 h1, fun q q0 q1 => ⟨fun h => ?_, fun ⟨j, t, h2, h3, h4, h5, h6⟩ => ?_⟩, fun q q0 h => ?_, ?_⟩
 ·obtain ⟨j, t, h2, h3, h4, h5, h6⟩ := key _ h
  refine ⟨(j : Int), t, by omega, h3, by simpa using h4, by simpa using h5, ?_⟩
  rwa [show ((q.toNat : Nat) : Int) = q by omega] at h6
 ·have hl := (List.getElem?_eq_some_iff.1 h5).1
  refine (divM_true ha (by omega) _).2 ⟨j.toNat, t, hl, h4, h5, ?_⟩
  rwa [show ((q.toNat : Nat) : Int) = q by omega]
 ·obtain ⟨j, t, h2, h3, h4, h5, h6⟩ := key _ h
  exact needs_kid ha h5 (by have := byI_kid h6; rwa [show ((q.toNat : Nat) : Int) = q by omega] at this) h4
 ·unfold cnt at h1
  refine (picks_none (fun j hj h => ?_) _ (by omega)).symm
  obtain ⟨j', t, h2, h3, _⟩ := key _ h
  omega
theorem picks_same {s s' : List Bool} : ∀ n : Nat, (∀ j, j < n → (s[j]? = some true ↔ s'[j]? = some true)) → picks s n = picks s' n
 | 0, _ => rfl
 | n + 1, h => by
  rw [picks, picks, picks_same n fun j hj => h j (by omega)]
  by_cases e : s[n]? = some true
  ·rw [if_pos e, if_pos ((h n (by omega)).1 e)]
  ·rw [if_neg e, if_neg fun e' => e ((h n (by omega)).2 e')]
theorem picks_ref {c : List Tm} {i : Int} (h0 : 0 ≤ i) (h1 : i < cnt c) (hg : goodC c = true) : picks ((divM c (needs c i.toNat) (i + 1).toNat).take (i + 1).toNat) (i + 1).toNat = picks (divM c (needs c i.toNat) c.length) c.length := by
 rw [← (asked_of h0 h1 hg).all]
 refine picks_same _ fun j hj => ?_
 have ha := ahead_of hg
 unfold cnt at h1
 rw [List.getElem?_take, if_pos hj, divM_true ha (by omega), divM_true ha (by omega)]
 constructor
 ·rintro ⟨k, t, g1, g2, g3, g4⟩
  exact ⟨k, t, (List.getElem?_eq_some_iff.1 g3).1, g2, g3, g4⟩
 ·rintro ⟨k, t, g1, g2, g3, g4⟩
  have := needs_le ha g2
  exact ⟨k, t, by omega, g2, g3, g4⟩
theorem div20_ok : SoundF Tryz.prog 16 divR := sound [(25, mayR), (21, needsR)] (orc_cons may_ok (orc_cons needs20_ok orc_nil)) Tryz.func16 (by kernel_rfl) (by kernel_rfl) fun us u hR => by
 obtain ⟨c, i, xs, hq, hn, hx, hxn, rfl, hu⟩ := hR
 obtain ⟨r, hr⟩ : ∃ r, (cnt c).toNat + 10 < r := ⟨_, Nat.lt_succ_self _⟩
 refine ⟨r, fun C E hC => ?_⟩
 have kM := hC 25 mayR (by simp) _ _ ⟨c, i, xs, hq, hn, hx, hxn, rfl, rfl⟩
 have kN := hC 21 needsR (by simp) _ _ ⟨c, i, hq, hn, rfl, rfl⟩
 have hcn := fun i (h0 : 0 ≤ i) (h1 : i < cnt c) => nth_map (c := c) tU h0 h1
 have hc0 := cnt0 c
 have hnl := needs_len c i.toNat
 have hmb : madeB c i xs = true → mayC c i = true ∧ 0 ≤ i ∧ i < cnt c ∧ goodC c = true := fun h => by
  unfold madeB mayC at h
  simp only [Bool.and_eq_true, decide_eq_true_eq] at h
  exact ⟨by unfold mayC; simp only [Bool.and_eq_true, decide_eq_true_eq]; exact h.1.1, h.1.1.1.1, h.1.1.1.2, h.1.1.2⟩
 unfold divS' at hu
 unfold needsU at kN
 unfold cU qsU at *
 generalize c.map tU = cs at *
 generalize xs.map qU = xr at *
 clear hC hx hxn hq
 cases hm : madeB c i xs
 ·rw [hm] at kM hu
  simp only [Bool.false_eq_true, if_false, if_true] at hu
  clear hcn hmb kN
  cbv
  (repeat ((first | with_reducible refine ln fun _ _ _ => ?_ | refine tt ?_ | refine ff ?_ | with_reducible refine wr fun _ _ => ?_ | refine rp fun _ _ _ => ?_ | with_reducible refine bq ?_ | refine cl ?_ | refine sd ?_); cbv))
  exact hu.symm
 rw [hm] at kM hu
 simp only [if_true] at hu
 obtain ⟨hmay, hi0, hi1, hgc⟩ := hmb hm
 rw [if_pos hmay] at kN
 rw [← picks_ref hi0 hi1 hgc] at hu
 have hok : ∀ (q : Int) t, 0 ≤ q → c[q.toNat]? = some t → termOk t q = true := fun q t h0 ht => by
  have := goodC_iff.1 hgc q.toNat t ht
  rwa [show (q.toNat : Int) = q by omega] at this
 have hdl := divM_len c (needs c i.toNat)
 clear hmb hmay hgc hm
 generalize needs c i.toNat = nd at *
 have hnx := fun j (h0 : 0 ≤ j) (h1 : j < cnt nd) => uB_nth (s := nd) h0 h1
 generalize uB nd = nds at *
 obtain ⟨uB, huB⟩ : ∃ f : List Bool → Rows, f = Rd.uB := ⟨_, rfl⟩
 have uB_len : ∀ s, cnt (uB s) = cnt s := fun s => by rw [huB]; exact Rd.uB_len s
 have uB_nth : ∀ {s : List Bool} {k : Int}, 0 ≤ k → k < cnt s → ∃ b, s[k.toNat]? = some b ∧ (uB s)[k.toNat]? = some [ub b] := fun {s k} h0 h1 => by rw [huB]; exact Rd.uB_nth h0 h1
 have uB_set : ∀ (s : List Bool) (k : Nat) (b : Bool), (uB s).set k [ub b] = uB (s.set k b) := fun s k b => by rw [huB]; exact Rd.uB_set s k b
 cbv
 (repeat ((first | with_reducible refine ln fun _ _ _ => ?_ | refine tt ?_ | refine ff ?_ | with_reducible refine wr fun _ _ => ?_ | refine rp fun _ _ _ => ?_ | with_reducible refine bq ?_ | refine cl ?_ | refine sd ?_); cbv))
 rename_i n1 hn1 rs hrs hrc
 have e0 : rs = uB ((divM c nd (0 : Int).toNat).take (i + 1).toNat) := by
  rw [hrs, huB]
  show _ = Rd.uB ((List.replicate c.length false).take (i + 1).toNat)
  unfold Rd.uB
  unfold cnt at hi1
  rw [List.take_replicate, List.map_replicate, show min (i + 1).toNat c.length = n1.toNat by omega]
 clear hrs
 refine lets [0, 1, 8, 9, 10] ?_
 cbv
 refine loop_inv (fun j a h => ∃ (q : Int) (bs : List Bool), 0 ≤ q ∧ q ≤ n1 ∧ j = (n1 - q).toNat ∧ bs = (divM c nd q.toNat).take (i + 1).toNat ∧ a = [.s 7 cs, ui i, .lost, .lost, .lost, .lost, .lost, .lost, .s 1 nds, .sl 0 n1 n1 1, ui q, .lost, .lost, .lost, .lost, .lost, .lost, .lost, .lost, .lost, .lost, .lost, .lost, .lost, .lost, .lost, .lost, .lost, .lost, .lost, .lost, .lost, .lost, .lost, .lost, .lost, .lost, .lost, .lost, .lost, .lost, .lost, .lost, .lost, .lost, .lost, .lost, .lost, .lost, .lost, .lost, .lost, .lost, .lost, .lost, .lost, .lost, .lost, .lost, .lost, .lost, .lost, .lost, .lost, .lost, .lost, .lost, .lost, .lost, .lost, .lost, .lost, .lost, .lost, .lost, .lost, .lost, .lost, .lost, .lost, .lost, .lost, .lost, .lost, .lost, .lost, .lost, .lost, .lost] ∧ h = [some (.row 1 (uB bs))]) ?_ r n1.toNat _ _ (by omega) ⟨0, _, by omega, by omega, by omega, rfl, rfl, by rw [e0]⟩
 rintro j a h K ⟨q, bs, q0, q1, hj, hbs, rfl, rfl⟩ hK
 have hbl : cnt bs = n1 := by
  have := hdl q.toNat
  rw [hbs]
  unfold cnt at *
  rw [List.length_take]
  omega
 rcases Decidable.em (q ≤ i) with hlt | hlt
 ·obtain ⟨b, hb, hz⟩ := hnx q q0 (by omega)
  obtain ⟨t, ht, hy⟩ := hcn q q0 (by omega)
  have hco := term_cases (hok q t q0 ht)
  cases b
  ·have hnext := divM_no (c := c) q0 hb
   clear hco hcn hnx hok
   cbv
   (repeat ((first | with_reducible refine ln fun _ _ _ => ?_ | refine tt ?_ | refine ff ?_ | with_reducible refine wr fun _ _ => ?_ | refine rp fun _ _ _ => ?_ | with_reducible refine bq ?_ | refine cl ?_ | refine sd ?_); cbv))
   refine el ?_ (by omega) hz
   cbv
   (repeat ((first | with_reducible refine ln fun _ _ _ => ?_ | refine tt ?_ | refine ff ?_ | with_reducible refine wr fun _ _ => ?_ | refine rp fun _ _ _ => ?_ | with_reducible refine bq ?_ | refine cl ?_ | refine sd ?_); cbv))
   refine el ?_ (by omega) hz
   cbv
   (repeat ((first | with_reducible refine ln fun _ _ _ => ?_ | refine tt ?_ | refine ff ?_ | with_reducible refine wr fun _ _ => ?_ | refine rp fun _ _ _ => ?_ | with_reducible refine bq ?_ | refine cl ?_ | refine sd ?_); cbv))
   rename_i q' hq'
   refine lets [0, 1, 8, 9, 10] ?_
   exact hK (n1 - (q + 1)).toNat _ _ (by omega) ⟨q + 1, bs, by omega, by omega, rfl, by rw [hnext, hbs], by rw [hq']; rfl, rfl⟩
  ·have hnext := divM_yes q0 hb ht
   obtain ⟨kd, ta, tb, m, s, l, d⟩ := t
   dsimp only at hco
   have hca : kd = 6 → 0 ≤ tb ∧ tb < q := fun h => by omega
   have hcb : kd = 8 → 0 ≤ ta ∧ ta < q := fun h => by omega
   unfold markD at hnext
   dsimp only at hnext
   clear hco hcn hnx hok
   rcases Decidable.em (kd = 6) with h6 | h6
   ·rw [if_pos h6] at hnext
    obtain ⟨b2, hb2, hz2⟩ := uB_nth (s := bs) (hca h6).1 (by have := (hca h6).2; omega)
    have hr2 := hca h6
    clear hca hcb
    cbv
    (repeat ((first | with_reducible refine ln fun _ _ _ => ?_ | refine tt ?_ | refine ff ?_ | with_reducible refine wr fun _ _ => ?_ | refine rp fun _ _ _ => ?_ | with_reducible refine bq ?_ | refine cl ?_ | refine sd ?_); cbv))
    refine el ?_ (by omega) hz
    cbv
    (repeat ((first | with_reducible refine ln fun _ _ _ => ?_ | refine tt ?_ | refine ff ?_ | with_reducible refine wr fun _ _ => ?_ | refine rp fun _ _ _ => ?_ | with_reducible refine bq ?_ | refine cl ?_ | refine sd ?_); cbv))
    repeat (refine el ?_ (by omega) hy; cbv; (repeat ((first | with_reducible refine ln fun _ _ _ => ?_ | refine tt ?_ | refine ff ?_ | with_reducible refine wr fun _ _ => ?_ | refine rp fun _ _ _ => ?_ | with_reducible refine bq ?_ | refine cl ?_ | refine sd ?_); cbv)))
    refine el ?_ (by omega) hz2
    cbv
    refine se fun zs e hyc => ?_
    obtain ⟨s3, hs3⟩ : ∃ s3, s3 = bs.set tb.toNat true := ⟨_, rfl⟩
    have e2 : zs = uB s3 := by rw [e, hs3, ← uB_set]
    clear e hyc
    subst e2
    cbv
    (repeat ((first | with_reducible refine ln fun _ _ _ => ?_ | refine tt ?_ | refine ff ?_ | with_reducible refine wr fun _ _ => ?_ | refine rp fun _ _ _ => ?_ | with_reducible refine bq ?_ | refine cl ?_ | refine sd ?_); cbv))
    refine el ?_ (by omega) hz
    cbv
    (repeat ((first | with_reducible refine ln fun _ _ _ => ?_ | refine tt ?_ | refine ff ?_ | with_reducible refine wr fun _ _ => ?_ | refine rp fun _ _ _ => ?_ | with_reducible refine bq ?_ | refine cl ?_ | refine sd ?_); cbv))
    repeat (refine el ?_ (by omega) hy; cbv; (repeat ((first | with_reducible refine ln fun _ _ _ => ?_ | refine tt ?_ | refine ff ?_ | with_reducible refine wr fun _ _ => ?_ | refine rp fun _ _ _ => ?_ | with_reducible refine bq ?_ | refine cl ?_ | refine sd ?_); cbv)))
    rename_i q' hq'
    refine lets [0, 1, 8, 9, 10] ?_
    exact hK (n1 - (q + 1)).toNat _ _ (by omega) ⟨q + 1, s3, by omega, by omega, rfl, by rw [hnext, hs3, hbs, List.take_set], by rw [hq']; rfl, rfl⟩
   rw [if_neg h6] at hnext
   rcases Decidable.em (kd = 8 ∧ m < 0) with h8 | h8
   ·rw [if_pos h8] at hnext
    obtain ⟨h8, h9⟩ := h8
    obtain ⟨b2, hb2, hz2⟩ := uB_nth (s := bs) (hcb h8).1 (by have := (hcb h8).2; omega)
    have hr2 := hcb h8
    clear hca hcb
    cbv
    (repeat ((first | with_reducible refine ln fun _ _ _ => ?_ | refine tt ?_ | refine ff ?_ | with_reducible refine wr fun _ _ => ?_ | refine rp fun _ _ _ => ?_ | with_reducible refine bq ?_ | refine cl ?_ | refine sd ?_); cbv))
    refine el ?_ (by omega) hz
    cbv
    (repeat ((first | with_reducible refine ln fun _ _ _ => ?_ | refine tt ?_ | refine ff ?_ | with_reducible refine wr fun _ _ => ?_ | refine rp fun _ _ _ => ?_ | with_reducible refine bq ?_ | refine cl ?_ | refine sd ?_); cbv))
    repeat (refine el ?_ (by omega) hy; cbv; (repeat ((first | with_reducible refine ln fun _ _ _ => ?_ | refine tt ?_ | refine ff ?_ | with_reducible refine wr fun _ _ => ?_ | refine rp fun _ _ _ => ?_ | with_reducible refine bq ?_ | refine cl ?_ | refine sd ?_); cbv)))
    refine el ?_ (by omega) hz
    cbv
    (repeat ((first | with_reducible refine ln fun _ _ _ => ?_ | refine tt ?_ | refine ff ?_ | with_reducible refine wr fun _ _ => ?_ | refine rp fun _ _ _ => ?_ | with_reducible refine bq ?_ | refine cl ?_ | refine sd ?_); cbv))
    repeat (refine el ?_ (by omega) hy; cbv; (repeat ((first | with_reducible refine ln fun _ _ _ => ?_ | refine tt ?_ | refine ff ?_ | with_reducible refine wr fun _ _ => ?_ | refine rp fun _ _ _ => ?_ | with_reducible refine bq ?_ | refine cl ?_ | refine sd ?_); cbv)))
    refine el ?_ (by omega) hz2
    cbv
    refine se fun zs e hyc => ?_
    obtain ⟨s3, hs3⟩ : ∃ s3, s3 = bs.set ta.toNat true := ⟨_, rfl⟩
    have e2 : zs = uB s3 := by rw [e, hs3, ← uB_set]
    clear e hyc
    subst e2
    cbv
    (repeat ((first | with_reducible refine ln fun _ _ _ => ?_ | refine tt ?_ | refine ff ?_ | with_reducible refine wr fun _ _ => ?_ | refine rp fun _ _ _ => ?_ | with_reducible refine bq ?_ | refine cl ?_ | refine sd ?_); cbv))
    rename_i q' hq'
    refine lets [0, 1, 8, 9, 10] ?_
    exact hK (n1 - (q + 1)).toNat _ _ (by omega) ⟨q + 1, s3, by omega, by omega, rfl, by rw [hnext, hs3, hbs, List.take_set], by rw [hq']; rfl, rfl⟩
   ·rw [if_neg h8] at hnext
    clear hca hcb
    rcases Decidable.em (kd = 8) with h9 | h9
    ·have h10 : ¬ m < 0 := fun h => h8 ⟨h9, h⟩
     cbv
     (repeat ((first | with_reducible refine ln fun _ _ _ => ?_ | refine tt ?_ | refine ff ?_ | with_reducible refine wr fun _ _ => ?_ | refine rp fun _ _ _ => ?_ | with_reducible refine bq ?_ | refine cl ?_ | refine sd ?_); cbv))
     refine el ?_ (by omega) hz
     cbv
     (repeat ((first | with_reducible refine ln fun _ _ _ => ?_ | refine tt ?_ | refine ff ?_ | with_reducible refine wr fun _ _ => ?_ | refine rp fun _ _ _ => ?_ | with_reducible refine bq ?_ | refine cl ?_ | refine sd ?_); cbv))
     repeat (refine el ?_ (by omega) hy; cbv; (repeat ((first | with_reducible refine ln fun _ _ _ => ?_ | refine tt ?_ | refine ff ?_ | with_reducible refine wr fun _ _ => ?_ | refine rp fun _ _ _ => ?_ | with_reducible refine bq ?_ | refine cl ?_ | refine sd ?_); cbv)))
     refine el ?_ (by omega) hz
     cbv
     (repeat ((first | with_reducible refine ln fun _ _ _ => ?_ | refine tt ?_ | refine ff ?_ | with_reducible refine wr fun _ _ => ?_ | refine rp fun _ _ _ => ?_ | with_reducible refine bq ?_ | refine cl ?_ | refine sd ?_); cbv))
     repeat (refine el ?_ (by omega) hy; cbv; (repeat ((first | with_reducible refine ln fun _ _ _ => ?_ | refine tt ?_ | refine ff ?_ | with_reducible refine wr fun _ _ => ?_ | refine rp fun _ _ _ => ?_ | with_reducible refine bq ?_ | refine cl ?_ | refine sd ?_); cbv)))
     rename_i q' hq'
     refine lets [0, 1, 8, 9, 10] ?_
     exact hK (n1 - (q + 1)).toNat _ _ (by omega) ⟨q + 1, bs, by omega, by omega, rfl, by rw [hnext, hbs], by rw [hq']; rfl, rfl⟩
    ·cbv
     (repeat ((first | with_reducible refine ln fun _ _ _ => ?_ | refine tt ?_ | refine ff ?_ | with_reducible refine wr fun _ _ => ?_ | refine rp fun _ _ _ => ?_ | with_reducible refine bq ?_ | refine cl ?_ | refine sd ?_); cbv))
     refine el ?_ (by omega) hz
     cbv
     (repeat ((first | with_reducible refine ln fun _ _ _ => ?_ | refine tt ?_ | refine ff ?_ | with_reducible refine wr fun _ _ => ?_ | refine rp fun _ _ _ => ?_ | with_reducible refine bq ?_ | refine cl ?_ | refine sd ?_); cbv))
     repeat (refine el ?_ (by omega) hy; cbv; (repeat ((first | with_reducible refine ln fun _ _ _ => ?_ | refine tt ?_ | refine ff ?_ | with_reducible refine wr fun _ _ => ?_ | refine rp fun _ _ _ => ?_ | with_reducible refine bq ?_ | refine cl ?_ | refine sd ?_); cbv)))
     refine el ?_ (by omega) hz
     cbv
     (repeat ((first | with_reducible refine ln fun _ _ _ => ?_ | refine tt ?_ | refine ff ?_ | with_reducible refine wr fun _ _ => ?_ | refine rp fun _ _ _ => ?_ | with_reducible refine bq ?_ | refine cl ?_ | refine sd ?_); cbv))
     repeat (refine el ?_ (by omega) hy; cbv; (repeat ((first | with_reducible refine ln fun _ _ _ => ?_ | refine tt ?_ | refine ff ?_ | with_reducible refine wr fun _ _ => ?_ | refine rp fun _ _ _ => ?_ | with_reducible refine bq ?_ | refine cl ?_ | refine sd ?_); cbv)))
     rename_i q' hq'
     refine lets [0, 1, 8, 9, 10] ?_
     exact hK (n1 - (q + 1)).toNat _ _ (by omega) ⟨q + 1, bs, by omega, by omega, rfl, by rw [hnext, hbs], by rw [hq']; rfl, rfl⟩
 have hqn : q = i + 1 := by omega
 rw [hqn] at hbs
 rw [← hbs] at hu
 have hnb := fun j (h0 : 0 ≤ j) (h1 : j < cnt bs) => uB_nth (s := bs) h0 h1
 have hub := uB_len bs
 have hpc : ∀ q : Int, 0 ≤ q → cnt (picks bs q.toNat) ≤ q := fun q h => Int.le_trans (picks_cnt bs q.toNat) (Int.le_of_eq (Int.toNat_of_nonneg h))
 clear hcn hnx hok hK hdl
 generalize uB bs = by' at *
 cbv
 (repeat ((first | with_reducible refine ln fun _ _ _ => ?_ | refine tt ?_ | refine ff ?_ | with_reducible refine wr fun _ _ => ?_ | refine rp fun _ _ _ => ?_ | with_reducible refine bq ?_ | refine cl ?_ | refine sd ?_); cbv))
 refine lets [1, 9, 11, 12] ?_
 cbv
 refine loop_inv (fun j a h => ∃ q : Int, 0 ≤ q ∧ q ≤ i + 1 ∧ j = (i + 1 - q).toNat ∧ ((picks bs q.toNat = [] ∧ a = [.lost, ui i, .lost, .lost, .lost, .lost, .lost, .lost, .lost, .sl 0 n1 n1 1, .lost, nilU, ui q, .lost, .lost, .lost, .lost, .lost, .lost, .lost, .lost, .lost, .lost, .lost, .lost, .lost, .lost, .lost, .lost, .lost, .lost, .lost, .lost, .lost, .lost, .lost, .lost, .lost, .lost, .lost, .lost, .lost, .lost, .lost, .lost, .lost, .lost, .lost, .lost, .lost, .lost, .lost, .lost, .lost, .lost, .lost, .lost, .lost, .lost, .lost, .lost, .lost, .lost, .lost, .lost, .lost, .lost, .lost, .lost, .lost, .lost, .lost, .lost, .lost, .lost, .lost, .lost, .lost, .lost, .lost, .lost, .lost, .lost, .lost, .lost, .lost, .lost, .lost, .lost] ∧ h = [some (.row 1 by')]) ∨ (∃ (l d : Int) (row : Rows), picks bs q.toNat ≠ [] ∧ l = cnt (picks bs q.toNat) ∧ d = cnt row ∧ l ≤ d ∧ row.take l.toNat = uis (picks bs q.toNat) ∧ a = [.lost, ui i, .lost, .lost, .lost, .lost, .lost, .lost, .lost, .sl 0 n1 n1 1, .lost, .sl 1 l d 1, ui q, .lost, .lost, .lost, .lost, .lost, .lost, .lost, .lost, .lost, .lost, .lost, .lost, .lost, .lost, .lost, .lost, .lost, .lost, .lost, .lost, .lost, .lost, .lost, .lost, .lost, .lost, .lost, .lost, .lost, .lost, .lost, .lost, .lost, .lost, .lost, .lost, .lost, .lost, .lost, .lost, .lost, .lost, .lost, .lost, .lost, .lost, .lost, .lost, .lost, .lost, .lost, .lost, .lost, .lost, .lost, .lost, .lost, .lost, .lost, .lost, .lost, .lost, .lost, .lost, .lost, .lost, .lost, .lost, .lost, .lost, .lost, .lost, .lost, .lost, .lost, .lost] ∧ h = [some (.row 1 by'), some (.row 1 row)]))) ?_ r (i + 1).toNat _ _ (by omega) ⟨0, by omega, by omega, by omega, .inl ⟨rfl, rfl, rfl⟩⟩
 rintro j2 a h K2 ⟨p, p0, p1, hj2, hI⟩ hK2
 have hpc := hpc p p0
 rcases Decidable.em (p ≤ i) with hlt2 | hlt2
 ·obtain ⟨b, hb, hz⟩ := hnb p p0 (by omega)
  clear hnb hu
  rcases hI with ⟨hp, rfl, rfl⟩ | ⟨l, d, row, hp, hl, hd, hld, hrow, rfl, rfl⟩
  ·cases b
   ·have hnext := picks_no p0 hb
    cbv
    (repeat ((first | with_reducible refine ln fun _ _ _ => ?_ | refine tt ?_ | refine ff ?_ | with_reducible refine wr fun _ _ => ?_ | refine rp fun _ _ _ => ?_ | with_reducible refine bq ?_ | refine cl ?_ | refine sd ?_); cbv))
    refine el ?_ (by omega) hz
    cbv
    (repeat ((first | with_reducible refine ln fun _ _ _ => ?_ | refine tt ?_ | refine ff ?_ | with_reducible refine wr fun _ _ => ?_ | refine rp fun _ _ _ => ?_ | with_reducible refine bq ?_ | refine cl ?_ | refine sd ?_); cbv))
    rename_i q' hq'
    refine lets [1, 9, 11, 12] ?_
    exact hK2 (i + 1 - (p + 1)).toNat _ _ (by omega) ⟨p + 1, by omega, by omega, rfl, .inl ⟨by rw [hnext, hp], by rw [hq']; rfl, rfl⟩⟩
   ·have hnext := picks_yes p0 hb
    cbv
    (repeat ((first | with_reducible refine ln fun _ _ _ => ?_ | refine tt ?_ | refine ff ?_ | with_reducible refine wr fun _ _ => ?_ | refine rp fun _ _ _ => ?_ | with_reducible refine bq ?_ | refine cl ?_ | refine sd ?_); cbv))
    refine el ?_ (by omega) hz
    cbv
    (repeat ((first | with_reducible refine ln fun _ _ _ => ?_ | refine tt ?_ | refine ff ?_ | with_reducible refine wr fun _ _ => ?_ | refine rp fun _ _ _ => ?_ | with_reducible refine bq ?_ | refine cl ?_ | refine sd ?_); cbv))
    refine sd ?_ (by unfold cnt; simp)
    intro nn cc zs e1 e2 e3
    have e1 : nn = 1 := e1
    have t1 : cc = cnt zs := by
     rw [e3]
     unfold cnt
     simp
     omega
    have t2 : zs.take nn.toNat = uis (picks bs (p + 1).toNat) := by
     rw [hnext, hp, e1, e3]
     rfl
    have t3 : nn = cnt (picks bs (p + 1).toNat) := by rw [hnext, hp, e1]; rfl
    clear e3
    cbv
    (repeat ((first | with_reducible refine ln fun _ _ _ => ?_ | refine tt ?_ | refine ff ?_ | with_reducible refine wr fun _ _ => ?_ | refine rp fun _ _ _ => ?_ | with_reducible refine bq ?_ | refine cl ?_ | refine sd ?_); cbv))
    rename_i q' hq'
    refine letsA [1, 9, 12] 11 1 ?_
    exact hK2 (i + 1 - (p + 1)).toNat _ _ (by omega) ⟨p + 1, by omega, by omega, rfl, .inr ⟨nn, cc, zs, by rw [hnext, hp]; simp, t3, t1, e2, t2, by rw [hq']; rfl, rfl⟩⟩
  ·cases b
   ·have hnext := picks_no p0 hb
    cbv
    (repeat ((first | with_reducible refine ln fun _ _ _ => ?_ | refine tt ?_ | refine ff ?_ | with_reducible refine wr fun _ _ => ?_ | refine rp fun _ _ _ => ?_ | with_reducible refine bq ?_ | refine cl ?_ | refine sd ?_); cbv))
    refine el ?_ (by omega) hz
    cbv
    (repeat ((first | with_reducible refine ln fun _ _ _ => ?_ | refine tt ?_ | refine ff ?_ | with_reducible refine wr fun _ _ => ?_ | refine rp fun _ _ _ => ?_ | with_reducible refine bq ?_ | refine cl ?_ | refine sd ?_); cbv))
    rename_i q' hq'
    refine letsA [1, 9, 12] 11 1 ?_
    exact hK2 (i + 1 - (p + 1)).toNat _ _ (by omega) ⟨p + 1, by omega, by omega, rfl, .inr ⟨l, d, row, by rwa [hnext], by rw [hnext]; exact hl, hd, hld, by rw [hnext]; exact hrow, by rw [hq']; rfl, rfl⟩⟩
   ·have hnext := picks_yes p0 hb
    cbv
    (repeat ((first | with_reducible refine ln fun _ _ _ => ?_ | refine tt ?_ | refine ff ?_ | with_reducible refine wr fun _ _ => ?_ | refine rp fun _ _ _ => ?_ | with_reducible refine bq ?_ | refine cl ?_ | refine sd ?_); cbv))
    refine el ?_ (by omega) hz
    cbv
    (repeat ((first | with_reducible refine ln fun _ _ _ => ?_ | refine tt ?_ | refine ff ?_ | with_reducible refine wr fun _ _ => ?_ | refine rp fun _ _ _ => ?_ | with_reducible refine bq ?_ | refine cl ?_ | refine sd ?_); cbv))
    have l0 : 0 ≤ l := by rw [hl]; exact cnt0 _
    refine sd ?_ ⟨by unfold cnt; simp, by unfold cnt; simp, by omega, hd⟩
    intro nn e1
    have e1 : nn = l + 1 := e1
    have t3 : nn = cnt (picks bs (p + 1).toNat) := by
     rw [hnext, e1, hl]
     unfold cnt
     simp
    have hne : picks bs (p + 1).toNat ≠ [] := by rw [hnext]; simp
    refine ⟨fun zs e2 e3 => ?_, fun cc zs e2 e3 e4 => ?_⟩
    ·have t1 : d = cnt zs := cnt_in l0 hd (by omega) e3
     have t2 : zs.take nn.toNat = uis (picks bs (p + 1).toNat) := by rw [hnext, e1]; exact take_in hl hrow e3
     clear e3
     cbv
     (repeat ((first | with_reducible refine ln fun _ _ _ => ?_ | refine tt ?_ | refine ff ?_ | with_reducible refine wr fun _ _ => ?_ | refine rp fun _ _ _ => ?_ | with_reducible refine bq ?_ | refine cl ?_ | refine sd ?_); cbv))
     rename_i q' hq'
     refine letsA [1, 9, 12] 11 1 ?_
     exact hK2 (i + 1 - (p + 1)).toNat _ _ (by omega) ⟨p + 1, by omega, by omega, rfl, .inr ⟨nn, d, zs, hne, t3, t1, e2, t2, by rw [hq']; rfl, rfl⟩⟩
    ·have t1 : cc = cnt zs := cnt_new l0 hd hld (by omega) e4
     have t2 : zs.take nn.toNat = uis (picks bs (p + 1).toNat) := by rw [hnext, e1]; exact take_in hl hrow e4
     clear e4
     cbv
     (repeat ((first | with_reducible refine ln fun _ _ _ => ?_ | refine tt ?_ | refine ff ?_ | with_reducible refine wr fun _ _ => ?_ | refine rp fun _ _ _ => ?_ | with_reducible refine bq ?_ | refine cl ?_ | refine sd ?_); cbv))
     rename_i q' hq'
     refine letsA [1, 9, 12] 11 2 ?_
     exact hK2 (i + 1 - (p + 1)).toNat _ _ (by omega) ⟨p + 1, by omega, by omega, rfl, .inr ⟨nn, cc, zs, hne, t3, t1, e3, t2, by rw [hq']; rfl, rfl⟩⟩
 ·rw [show (i + 1).toNat = p.toNat by omega] at hu
  clear hnb hK2 hub
  rcases hI with ⟨hp, rfl, rfl⟩ | ⟨l, d, row, hp, hl, hd, hld, hrow, rfl, rfl⟩
  ·rw [hp, if_pos rfl] at hu
   cbv
   (repeat ((first | with_reducible refine ln fun _ _ _ => ?_ | refine tt ?_ | refine ff ?_ | with_reducible refine wr fun _ _ => ?_ | refine rp fun _ _ _ => ?_ | with_reducible refine bq ?_ | refine cl ?_ | refine sd ?_); cbv))
   exact hu.symm
  ·rw [if_neg hp, ← hrow] at hu
   clear hp hrow
   cbv
   (repeat ((first | refine ln fun _ _ _ => ?_ | refine tt ?_ | refine ff ?_ | refine wr fun _ _ => ?_ | refine rp fun _ _ _ => ?_ | with_reducible refine bq ?_ | refine cl ?_ | refine sd ?_ | intro _ _); cbv))
   rename_i ys e
   rw [hu, e]
theorem over_no {n : Int} {q : R3} (h : overQ n q = false) : cnt q.2.1 ≤ n ∧ cnt q.2.2 ≤ n := by
 unfold overQ at h
 simp only [Bool.or_eq_false_iff, decide_eq_false_iff_not] at h
 omega
theorem largeC_all {c : List Tm} (h : largeC c = false) : cnt c ≤ 400 ∧ ∀ t ∈ c, cnt t.q.2.1 ≤ 1000000 ∧ cnt t.q.2.2 ≤ 1000000 := by
 unfold largeC at h
 simp only [Bool.or_eq_false_iff, decide_eq_false_iff_not] at h
 refine ⟨by have := h.1.1; omega, fun t ht => ?_⟩
 have := List.any_eq_false.1 h.1.2 t ht
 have := over_no (by simpa using this)
 omega
theorem longL_all {xs : List R3} (h : longL xs = false) : cnt xs ≤ 100 ∧ ∀ t ∈ xs, cnt t.2.1 ≤ 1000000 ∧ cnt t.2.2 ≤ 1000000 := by
 unfold longL at h
 simp only [Bool.or_eq_false_iff, decide_eq_false_iff_not] at h
 have h100 : cnt xs ≤ 100 := by have := h.2; omega
 refine ⟨h100, fun t ht => ?_⟩
 rw [List.take_of_length_le (by unfold cnt at h100; omega)] at h
 have := List.any_eq_false.1 h.1 t ht
 have := over_no (by simpa using this)
 omega
theorem div20_ok' : SoundF Tryz.prog 16 divR' := relaxG div20_ok fun us u ⟨c, i, xs, h1, h2, h3, h4, h5, h6⟩ => by
 refine ⟨us, _, ⟨c, i, xs, h1, h2, h3, h4, h5, rfl⟩, eqs_refl _, ?_⟩
 rw [h6]
 split
 ·rename_i h
  rw [h]
  rintro ok W v ⟨vs, e, hr⟩
  exact ⟨vs, e, nilEqs_reps (us := [nilU, ui (divS' c i xs).2]) ⟨.inr ⟨rfl, 1, rfl⟩, .inl rfl, trivial⟩ hr⟩
 ·exact fun _ _ _ h => h
def sameNR (us : List U) (u : U) : Prop := ∃ c i, cnt c ≤ 1000000 ∧ us = [needsU c i, needsU c i] ∧ u = ub true
theorem sameN_ok : SoundF Tryz.prog 19 sameNR := relax keepBools_ok fun us u ⟨c, i, h1, h2, h3⟩ => by
 by_cases hm : mayC c i = true
 ·refine ⟨us, u, ⟨needs c i.toNat, needs c i.toNat, by rw [needs_len]; exact h1, ?_, by rw [h3, decide_eq_true rfl]⟩, eqs_refl _, .inl rfl⟩
  rw [h2]
  unfold needsU
  rw [if_pos hm]
 ·refine ⟨[.s 1 (uB []), .s 1 (uB [])], u, ⟨[], [], by decide, rfl, by rw [h3, decide_eq_true rfl]⟩, ?_, .inl rfl⟩
  rw [h2]
  unfold needsU
  rw [if_neg hm]
  exact ⟨.inr ⟨rfl, 1, rfl⟩, .inr ⟨rfl, 1, rfl⟩, trivial⟩
def tellsR (us : List U) (u : U) : Prop := ∃ c i xs, (∀ t ∈ c, TmOk t) ∧ cnt c ≤ 9223372036854775807 ∧ -9223372036854775808 ≤ i ∧ i ≤ 9223372036854775807 ∧ (∀ a ∈ xs, LB a) ∧ cnt xs ≤ 9223372036854775807 ∧ us = [cU c, ui i, qsU xs] ∧ u = ub true
theorem divS'_cnt (c : List Tm) (i : Int) (xs : List R3) : cnt (divS' c i xs).1 ≤ cnt c := by
 unfold divS'
 split
 ·exact picks_cnt _ _
 ·exact cnt0 c
theorem tells_ok : SoundF Tryz.prog 3 tellsR := sound [(7, largeCR), (8, longLR), (9, tameR), (10, yesR), (11, copyCR), (12, copyXR), (13, ofR), (14, of20R), (15, divR'), (16, divR'), (17, keepR), (18, keepIntsR), (20, needsR), (21, needsR), (19, sameNR), (22, keepCoreR), (23, keepRatsR)] (orc_cons largeC_ok (orc_cons longL_ok (orc_cons tame_ok (orc_cons wakes_ok (orc_cons copyC_ok (orc_cons copyX_ok (orc_cons of_ok (orc_cons of20_ok (orc_cons div_ok' (orc_cons div20_ok' (orc_cons keep_ok (orc_cons keepInts_ok (orc_cons needs_ok (orc_cons needs20_ok (orc_cons sameN_ok (orc_cons keepCore_ok (orc_cons keepRats_ok orc_nil))))))))))))))))) Tryz.func3 (by kernel_rfl) (by kernel_rfl) fun us u hR => ⟨0, fun C E hC => by
 obtain ⟨c, i, xs, hq, hn, i0, i1, hx, hxn, rfl, hu⟩ := hR
 have hqL : ∀ t ∈ c, LB t.q := fun t h => (hq t h).q
 have kl := hC 7 largeCR (by simp) _ _ ⟨c, hn, rfl, rfl⟩
 have kx := hC 8 longLR (by simp) _ _ ⟨xs, hxn, rfl, rfl⟩
 have kt := hC 9 tameR (by simp) _ _ ⟨c, xs, hn, hxn, rfl, rfl⟩
 have kw := hC 10 yesR (by simp) _ _ ⟨rfl, rfl⟩
 have hl4 := fun h => largeC_all (c := c) h
 have hl1 := fun h => longL_all (xs := xs) h
 generalize largeC c = b1 at *
 generalize longL xs = b2 at *
 generalize tameB c xs = b3 at *
 obtain ⟨cs, hcs⟩ : ∃ cs, cU c = .s 7 cs := ⟨_, rfl⟩
 obtain ⟨ys, hys⟩ : ∃ ys, qsU xs = .s 3 ys := ⟨_, rfl⟩
 rw [hcs] at kl kt ⊢
 rw [hys] at kx kt ⊢
 cases b1
 case true =>
  clear hl4 hl1 hC
  cbv
  (repeat ((first | with_reducible refine ln fun _ _ _ => ?_ | refine tt ?_ | refine ff ?_ | with_reducible refine wr fun _ _ => ?_ | refine rp fun _ _ _ => ?_ | with_reducible refine bq ?_ | refine cl ?_ | refine sd ?_); cbv))
  exact hu.symm
 cases b2
 case true =>
  clear hl4 hl1 hC
  cbv
  (repeat ((first | with_reducible refine ln fun _ _ _ => ?_ | refine tt ?_ | refine ff ?_ | with_reducible refine wr fun _ _ => ?_ | refine rp fun _ _ _ => ?_ | with_reducible refine bq ?_ | refine cl ?_ | refine sd ?_); cbv))
  exact hu.symm
 cases b3
 case false =>
  clear hl4 hl1 hC
  cbv
  (repeat ((first | with_reducible refine ln fun _ _ _ => ?_ | refine tt ?_ | refine ff ?_ | with_reducible refine wr fun _ _ => ?_ | refine rp fun _ _ _ => ?_ | with_reducible refine bq ?_ | refine cl ?_ | refine sd ?_); cbv))
  exact hu.symm
 obtain ⟨hl4, hb7⟩ := hl4 rfl
 obtain ⟨hl1, hb3⟩ := hl1 rfl
 have c1 : cnt c ≤ 1000000 := by omega
 have c2 : cnt xs ≤ 1000000 := by omega
 have o1 := hC 11 copyCR (by simp) _ _ ⟨c, hb7, c1, rfl, rfl⟩
 have o2 := hC 12 copyXR (by simp) _ _ ⟨xs, hb3, c2, rfl, rfl⟩
 have o3 := hC 13 ofR (by simp) _ _ ⟨c, i, xs, hqL, c1, hx, c2, rfl, rfl⟩
 have o4 := hC 14 of20R (by simp) _ _ ⟨c, i, xs, hqL, c1, hx, c2, rfl, rfl⟩
 have o5 := hC 15 divR' (by simp) _ _ ⟨c, i, xs, hqL, c1, hx, c2, rfl, rfl⟩
 have o6 := hC 16 divR' (by simp) _ _ ⟨c, i, xs, hqL, c1, hx, c2, rfl, rfl⟩
 have o7 := hC 20 needsR (by simp) _ _ ⟨c, i, hqL, c1, rfl, rfl⟩
 have o8 := hC 21 needsR (by simp) _ _ ⟨c, i, hqL, c1, rfl, rfl⟩
 have r1 := hC 19 sameNR (by simp) _ _ ⟨c, i, c1, rfl, rfl⟩
 have r2 := hC 22 keepCoreR (by simp) _ _ ⟨c, hb7, c1, rfl, rfl⟩
 have r3 := hC 23 keepRatsR (by simp) _ _ ⟨xs, hb3, c2, rfl, rfl⟩
 have hLR := LR_of c i xs
 have r4 := hC 18 keepIntsR (by simp) _ _ ⟨(divS' c i xs).1, (divS' c i xs).1, Int.le_trans (divS'_cnt c i xs) c1, rfl, rfl⟩
 rw [decide_eq_true rfl] at r4
 have r5 := fun (a : R3) (h : LR a) => hC 17 keepR (by simp) _ _ ⟨a, a, by have := h.lt; unfold cnt; omega, by have := h.lb; unfold cnt; omega, rfl, rfl⟩
 rw [hcs] at o1 o3 o4 o5 o6 o7 o8 r2
 rw [hys] at o2 o3 o4 o5 o6 r3
 generalize ofS c i xs = w at *
 generalize divS' c i xs = dv at *
 obtain ⟨s5, l5, d5, e5⟩ := w
 obtain ⟨dl, de⟩ := dv
 have o3 : C 13 [.s 7 cs, ui i, .s 3 ys] (.tup [.agg [ub s5, .l l5, .l d5], ui e5]) := o3
 have o4 : C 14 [.s 7 cs, ui i, .s 3 ys] (.agg [ub s5, .l l5, .l d5, ui e5]) := o4
 dsimp only at o5 o6 r4
 have r5 := r5 (s5, l5, d5) hLR
 rw [decide_eq_true rfl] at r5
 have r5 : C 17 [.agg [ub s5, .l l5, .l d5], .agg [ub s5, .l l5, .l d5]] (ub true) := r5
 generalize uis dl = dr at *
 obtain ⟨nu, hnu, hor⟩ : ∃ nu, needsU c i = nu ∧ (nu = nilU ∨ ∃ nds, nu = .s 1 nds) := ⟨_, rfl, by
  unfold needsU
  split
  ·exact .inr ⟨_, rfl⟩
  ·exact .inl rfl⟩
 rw [hnu] at o7 o8 r1
 clear hC hLR hb7 hb3 hq hqL hx hnu hcs hys
 rcases hor with rfl | ⟨nds, rfl⟩ <;> (cbv; (repeat ((first | with_reducible refine ln fun _ _ _ => ?_ | refine tt ?_ | refine ff ?_ | with_reducible refine wr fun _ _ => ?_ | refine rp fun _ _ _ => ?_ | with_reducible refine bq ?_ | refine cl ?_ | refine sd ?_); cbv)); exact hu.symm)⟩
end Go.Proofs.YtheciiemknmnoaaGreat.Rd
end
