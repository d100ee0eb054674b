/- Part 7 of the proof. -/
import Derived.Test.YtjkcmnedolfkjaaGreatProg
import Derived.Laws.Tables
import Derived.Orders
import Derived.Below
import Derived.Deep.Draws
import Derived.Deep.AppendLies
import Derived.Maps.AppendAt
import Derived.OwnWalk
import Derived.Laws.BytesArg
import Derived.Laws.MakeOwn
import Derived.Laws.OwnMore
import Derived.Deep.OwnRows
import Derived.Tactics
import Derived.Lib.ConvBytes
import Derived.Laws.Slices
import Derived.WalkKit
import Derived.KernelRfl
import Derived.RowKit3
import Derived.Deep.LoopGhost
import Derived.Deep.QuietTactic
import Derived.BigQuiet
import Derived.WideLaws
import Derived.Deep.DeepCutAuto
import Derived.Deep.CutBlock
import Derived.Deep.RegionHeld3
import Derived.Laws.Rows
import Derived.Lib.AppendStr
import Derived.ArgAppend
import Derived.Laws.IdiomCopy
import Derived.RowKit
import Derived.OrdersHeld
import Derived.Laws.BitsLemmas
import Derived.Laws.Cells
import Derived.Great.BuildSlice
import Derived.Deep.Slices
import Derived.Laws.AppendOwn
import Derived.Laws.LoneSync
import Derived.LoopN
import Derived.Laws.StructEq
import Derived.Laws.Bits64b
import Derived.Laws.BitsAllLaws
import Derived.Conc.MuLone
import Derived.RegionTactic
import Derived.RegionCalls
import Derived.ChangeAlike
import Derived.Test.YtjkcmnedolfkjaaGreatU6
set_option linter.unusedVariables false
set_option linter.unusedSimpArgs false
section
set_option linter.unusedVariables false
set_option linter.unusedSimpArgs false
set_option maxRecDepth 100000
set_option maxHeartbeats 4000000
namespace Go.Proofs.YtjkcmnedolfkjaaGreat.Rd
open Go Go.RowKit Go.Proofs.YtjkcmnedolfkjaaGreatW.PrintWords Go.Proofs.YtjkcmnedolfkjaaGreat.PL Go.Proofs.YtjkcmnedolfkjaaGreat.Num

def overQ (n : Int) (q : R3) : Bool := decide (n < cnt q.2.1) || decide (n < cnt q.2.2)
def overR (n : Int) (us : List U) (u : U) : Prop := ∃ q : R3, us = [uR q] ∧ u = ub (overQ n q)
theorem large_ok : SoundF Tryz.prog 32 (overR 200) := sound [] orc_nil Tryz.func32 (by kernel_rfl) (by kernel_rfl) fun us u hR => ⟨0, fun C E hC => by
 obtain ⟨⟨s, l, d⟩, rfl, hu⟩ := hR
 unfold overQ at hu
 dsimp only at hu
 cbv
 rcases Decidable.em (200 < cnt l) with h1 | h1
 ·rw [decide_eq_true h1, Bool.true_or] at hu
  (repeat ((first | with_reducible refine ln fun _ _ _ => ?_ | refine tt ?_); cbv)); exact hu.symm
 rw [decide_eq_false h1, Bool.false_or] at hu
 rcases Decidable.em (200 < cnt d) with h2 | h2
 ·rw [decide_eq_true h2] at hu
  (repeat ((first | with_reducible refine ln fun _ _ _ => ?_ | refine tt ?_ | refine ff ?_); cbv)); exact hu.symm
 ·rw [decide_eq_false h2] at hu
  (repeat ((first | with_reducible refine ln fun _ _ _ => ?_ | refine ff ?_); cbv)); exact hu.symm⟩
theorem long_ok : SoundF Tryz.prog 45 (overR 70) := sound [] orc_nil Tryz.func45 (by kernel_rfl) (by kernel_rfl) fun us u hR => ⟨0, fun C E hC => by
 obtain ⟨⟨s, l, d⟩, rfl, hu⟩ := hR
 unfold overQ at hu
 dsimp only at hu
 cbv
 rcases Decidable.em (70 < cnt l) with h1 | h1
 ·rw [decide_eq_true h1, Bool.true_or] at hu
  (repeat ((first | with_reducible refine ln fun _ _ _ => ?_ | refine tt ?_); cbv)); exact hu.symm
 rw [decide_eq_false h1, Bool.false_or] at hu
 rcases Decidable.em (70 < cnt d) with h2 | h2
 ·rw [decide_eq_true h2] at hu
  (repeat ((first | with_reducible refine ln fun _ _ _ => ?_ | refine tt ?_ | refine ff ?_); cbv)); exact hu.symm
 ·rw [decide_eq_false h2] at hu
  (repeat ((first | with_reducible refine ln fun _ _ _ => ?_ | refine ff ?_); cbv)); exact hu.symm⟩
def twoB (k : Int) : Bool := decide (k = 3 ∨ k = 4 ∨ k = 5 ∨ k = 6)
def isTwoR (us : List U) (u : U) : Prop := ∃ k : Int, us = [ui k] ∧ u = ub (twoB k)
theorem two_ok : SoundF Tryz.prog 44 isTwoR := sound [] orc_nil Tryz.func44 (by kernel_rfl) (by kernel_rfl) fun us u hR => ⟨0, fun C E hC => by
 obtain ⟨k, rfl, hu⟩ := hR
 unfold twoB at hu
 cbv
 rcases Decidable.em (k = 3 ∨ k = 4 ∨ k = 5 ∨ k = 6) with h | h
 ·rw [decide_eq_true h] at hu
  rcases h with h | h | h | h <;> ((repeat ((first | refine tt ?_ | refine ff ?_); cbv)); exact hu.symm)
 ·rw [decide_eq_false h] at hu
  (repeat ((refine ff ?_); cbv)); exact hu.symm⟩
def limbsTo (c : List Tm) : Nat → Int
 | 0 => 0
 | i + 1 => limbsTo c i + (match c[i]? with
  | some t => cnt t.q.2.1 + cnt t.q.2.2
  | none => 0)
def largeC (c : List Tm) : Bool := decide (400 < cnt c) || (c.any fun t => overQ 200 t.q) || decide (2000 < limbsTo c c.length)
theorem limbs_next {c : List Tm} {i : Int} {t : Tm} (h0 : 0 ≤ i) (ht : c[i.toNat]? = some t) : limbsTo c (i + 1).toNat = limbsTo c i.toNat + (cnt t.q.2.1 + cnt t.q.2.2) := by
 rw [show (i + 1).toNat = i.toNat + 1 by omega, limbsTo, ht]
def largeCR (us : List U) (u : U) : Prop := ∃ c, cnt c ≤ 9223372036854775807 ∧ us = [cU c] ∧ u = ub (largeC c)
theorem any_upto {α : Type} {c : List α} {f : α → Bool} {i : Int} {t : α} (h0 : 0 ≤ i) (ht : c[i.toNat]? = some t) (hf : f t = false) (h : ∀ (x : Nat) t, (x : Int) < i → c[x]? = some t → f t = false) : ∀ (x : Nat) t, (x : Int) < i + 1 → c[x]? = some t → f t = false := fun x t' hx hx' => by
 by_cases e : (x : Int) = i
 ·rw [show x = i.toNat by omega, ht] at hx'
  injection hx' with hx'
  rw [← hx']
  exact hf
 ·exact h x t' (by omega) hx'
theorem any_yes {α : Type} {c : List α} {f : α → Bool} {i : Int} {t : α} (ht : c[i.toNat]? = some t) (hf : f t = true) : c.any f = true := List.any_eq_true.2 ⟨t, List.mem_of_getElem? ht, hf⟩
theorem any_no {α : Type} {c : List α} {f : α → Bool} (h : ∀ (x : Nat) t, (x : Int) < cnt c → c[x]? = some t → f t = false) : c.any f = false := by
 rw [Bool.eq_false_iff]
 intro hh
 obtain ⟨t, ht, hf⟩ := List.any_eq_true.1 hh
 obtain ⟨x, hx, rfl⟩ := List.mem_iff_getElem.1 ht
 rw [h x _ (by unfold cnt; omega) (List.getElem?_eq_getElem hx)] at hf
 cases hf
theorem largeC_ok : SoundF Tryz.prog 8 largeCR := sound [(32, overR 200)] (orc_cons large_ok orc_nil) Tryz.func8 (by kernel_rfl) (by kernel_rfl) fun us u hR => by
 obtain ⟨c, hn, rfl, hu⟩ := hR
 obtain ⟨r, hr⟩ : ∃ r, (cnt c).toNat < r := ⟨_, Nat.lt_succ_self _⟩
 refine ⟨r, fun C E hC => ?_⟩
 have kt : ∀ q : R3, C 32 [.agg [ub q.1, .l q.2.1, .l q.2.2]] (ub (overQ 200 q)) := fun q => hC 32 (overR 200) (by simp) _ _ ⟨q, rfl, rfl⟩
 have hm := fun i (h0 : 0 ≤ i) (h1 : i < cnt c) => nth_map (c := c) tU h0 h1
 have hc := cnt_map c tU
 have hc0 := cnt0 c
 unfold largeC at hu
 unfold cU
 generalize c.map tU = xs at *
 cbv
 rcases Decidable.em (400 < cnt c) with h4 | h4
 ·rw [decide_eq_true h4, Bool.true_or, Bool.true_or] at hu
  (repeat ((first | with_reducible refine ln fun _ _ _ => ?_ | refine tt ?_); cbv))
  exact hu.symm
 rw [decide_eq_false h4, Bool.false_or] at hu
 (repeat ((first | with_reducible refine ln fun _ _ _ => ?_ | refine ff ?_); cbv))
 refine lets [0, 3, 4] ?_
 cbv
 refine loop_inv (fun j a h => ∃ i n : Int, 0 ≤ i ∧ i ≤ cnt c ∧ j = (cnt c - i).toNat ∧ (∀ (x : Nat) t, (x : Int) < i → c[x]? = some t → overQ 200 t.q = false) ∧ n = limbsTo c i.toNat ∧ 0 ≤ n ∧ n ≤ 400 * i ∧ a = [.s 7 xs, .lost, .lost, ui n, ui i, .lost, .lost, .lost, .lost, .lost, .lost, .lost, .lost, .lost, .lost, .lost, .lost, .lost, .lost, .lost, .lost, .lost, .lost, .lost, .lost, .lost, .lost, .lost, .lost, .lost, .lost, .lost, .lost, .lost, .lost, .lost, .lost, .lost, .lost, .lost] ∧ h = []) ?_ r (cnt c).toNat _ _ hr ⟨0, 0, by omega, by omega, by omega, fun x t hx _ => absurd hx (by omega), rfl, by omega, by omega, rfl, rfl⟩
 rintro j a h K ⟨i, n, i0, i1, hj, hg, hl, n0, n1, rfl, rfl⟩ hK
 rcases Decidable.em (i < cnt c) with hlt | hlt
 ·obtain ⟨t, ht, hx⟩ := hm i i0 hlt
  have k1 := kt t.q
  have hnx := limbs_next i0 ht
  have hg1 := fun hf => any_upto (f := fun t => overQ 200 t.q) i0 ht hf hg
  have hg2 : overQ 200 t.q = true → (c.any fun t => overQ 200 t.q) = true := fun hf => any_yes (f := fun t => overQ 200 t.q) ht hf
  obtain ⟨kd, ta, tb, m, s, l, d⟩ := t
  have hov : overQ 200 (s, l, d) = false → cnt l ≤ 200 ∧ cnt d ≤ 200 := fun h => by
   unfold overQ at h
   simp only [Bool.or_eq_false_iff, decide_eq_false_iff_not] at h
   have h1 : ¬ 200 < cnt l := h.1
   have h2 : ¬ 200 < cnt d := h.2
   omega
  dsimp only at k1 hg1 hg2 hnx
  generalize overQ 200 (s, l, d) = g at *
  clear hm hg kt
  cases g
  ·have hov := hov rfl
   have hg1 := hg1 rfl
   have l0 := cnt0 l
   have d0 := cnt0 d
   clear hg2
   cbv
   (repeat ((first | with_reducible refine ln fun _ _ _ => ?_ | refine tt ?_); cbv))
   refine el ?_ (by omega) hx
   cbv
   (repeat ((refine cl ?_); cbv))
   refine el ?_ (by omega) hx
   cbv
   (repeat (((with_reducible refine ln fun _ _ _ => ?_)); cbv))
   refine el ?_ (by omega) hx
   cbv
   (repeat ((first | with_reducible refine ln fun _ _ _ => ?_ | with_reducible refine wr fun _ _ => ?_); cbv))
   rename_i n' hn' i' hi'
   refine lets [0, 3, 4] ?_
   exact hK (cnt c - (i + 1)).toNat _ _ (by omega) ⟨i + 1, n', by omega, by omega, rfl, hg1, by omega, by omega, by omega, by rw [hi']; rfl, rfl⟩
  ·rw [hg2 rfl, Bool.true_or] at hu
   clear hg1 hg2 hov hK
   cbv
   (repeat ((first | with_reducible refine ln fun _ _ _ => ?_ | refine tt ?_); cbv))
   refine el ?_ (by omega) hx
   cbv
   (repeat ((refine cl ?_); cbv))
   exact hu.symm
 ·rw [any_no (f := fun t => overQ 200 t.q) fun x t hx => hg x t (by omega), Bool.false_or, show c.length = i.toNat by unfold cnt at *; omega, ← hl] at hu
  clear hg hm kt hK
  cbv
  rcases Decidable.em (2000 < n) with h5 | h5
  ·rw [decide_eq_true h5] at hu
   (repeat ((first | with_reducible refine ln fun _ _ _ => ?_ | refine tt ?_ | refine ff ?_); cbv)); exact hu.symm
  ·rw [decide_eq_false h5] at hu
   (repeat ((first | with_reducible refine ln fun _ _ _ => ?_ | refine ff ?_); cbv)); exact hu.symm
def longL (xs : List R3) : Bool := ((xs.take 101).any (overQ 70)) || decide (100 < cnt xs)
def longLR (us : List U) (u : U) : Prop := ∃ xs, cnt xs ≤ 9223372036854775807 ∧ us = [qsU xs] ∧ u = ub (longL xs)
theorem longL_ok : SoundF Tryz.prog 17 longLR := sound [(45, overR 70)] (orc_cons long_ok orc_nil) Tryz.func17 (by kernel_rfl) (by kernel_rfl) fun us u hR => by
 obtain ⟨c, hn, rfl, hu⟩ := hR
 refine ⟨1000, fun C E hC => ?_⟩
 obtain ⟨r, hr⟩ : ∃ r, r = 1000 := ⟨_, rfl⟩
 rw [← hr]
 have kt : ∀ q : R3, C 45 [.agg [ub q.1, .l q.2.1, .l q.2.2]] (ub (overQ 70 q)) := fun q => hC 45 (overR 70) (by simp) _ _ ⟨q, rfl, rfl⟩
 have hm := fun i (h0 : 0 ≤ i) (h1 : i < cnt c) => nth_map (c := c) qU h0 h1
 have hc := cnt_map c qU
 have hc0 := cnt0 c
 unfold longL at hu
 unfold qsU
 generalize c.map qU = xs at *
 cbv
 (repeat ((first | with_reducible refine ln fun _ _ _ => ?_ | refine tt ?_ | refine ff ?_ | refine tt ?_ rfl | with_reducible refine wr fun _ _ => ?_ | refine rp fun _ _ _ => ?_ | with_reducible refine bq ?_ | refine cl ?_ | refine sd ?_); cbv))
 refine lets [0, 3] ?_
 cbv
 refine loop_inv (fun j a h => ∃ i : Int, 0 ≤ i ∧ i ≤ cnt c ∧ i ≤ 101 ∧ j = (101 - i).toNat ∧ (∀ (x : Nat) t, (x : Int) < i → c[x]? = some t → overQ 70 t = false) ∧ a = [.s 3 xs, .lost, .lost, ui i, .lost, .lost, .lost, .lost, .lost, .lost, .lost, .lost, .lost, .lost, .lost, .lost, .lost, .lost, .lost, .lost, .lost, .lost] ∧ h = []) ?_ r 101 _ _ (by omega) ⟨0, by omega, by omega, by omega, by omega, fun x t hx _ => absurd hx (by omega), rfl, rfl⟩
 rintro j a h K ⟨i, i0, i1, i2, hj, hg, rfl, rfl⟩ hK
 rcases Decidable.em (i < cnt c ∧ i ≤ 100) with hlt | hlt
 ·obtain ⟨⟨s, l, d⟩, ht, hx⟩ := hm i i0 hlt.1
  have k1 := kt (s, l, d)
  have hg1 := fun hf => any_upto (f := overQ 70) i0 ht hf hg
  have hg2 : overQ 70 (s, l, d) = true → ((c.take 101).any (overQ 70)) = true := fun hf => any_yes (f := overQ 70) (i := i) (by rw [List.getElem?_take, if_pos (by omega), ht]) hf
  dsimp only at k1
  generalize overQ 70 (s, l, d) = g at *
  clear hm hg kt
  cases g
  ·have hg1 := hg1 rfl
   clear hg2
   cbv
   (repeat ((first | with_reducible refine ln fun _ _ _ => ?_ | refine tt ?_); cbv))
   refine el ?_ (by omega) hx
   cbv
   (repeat ((first | with_reducible refine wr fun _ _ => ?_ | refine cl ?_); cbv))
   rename_i i' hi'
   refine lets [0, 3] ?_
   exact hK (101 - (i + 1)).toNat _ _ (by omega) ⟨i + 1, by omega, by omega, by omega, rfl, hg1, by rw [hi']; rfl, rfl⟩
  ·rw [hg2 rfl, Bool.true_or] at hu
   clear hg1 hg2 hK
   cbv
   (repeat ((first | with_reducible refine ln fun _ _ _ => ?_ | refine tt ?_); cbv))
   refine el ?_ (by omega) hx
   cbv
   (repeat ((refine cl ?_); cbv))
   exact hu.symm
 ·have hno : ((c.take 101).any (overQ 70)) = false := any_no (f := overQ 70) fun x t hx hx' => by
   rw [List.getElem?_take] at hx'
   split at hx'
   ·rename_i h101
    have := (List.getElem?_eq_some_iff.1 hx').1
    exact hg x t (by unfold cnt at *; omega) hx'
   ·cases hx'
  rw [hno, Bool.false_or] at hu
  clear hg hm kt hK hno
  cbv
  rcases Decidable.em (100 < cnt c) with h5 | h5
  ·rw [decide_eq_true h5] at hu
   rcases Decidable.em (i < cnt c) with h6 | h6 <;> ((repeat ((first | with_reducible refine ln fun _ _ _ => ?_ | refine tt ?_ | refine ff ?_); cbv)); exact hu.symm)
  ·rw [decide_eq_false h5] at hu
   have h6 : ¬ i < cnt c := fun h => hlt ⟨h, by omega⟩
   (repeat ((first | with_reducible refine ln fun _ _ _ => ?_ | refine ff ?_); cbv)); exact hu.symm
def TermP (k a b n : Int) (s : Bool) (cl cd : Int) (g : Bool) (i : Int) : Prop :=
  (k = 1 ∧ a = 0 ∧ b = 0 ∧ n = 0 ∧ g = true) ∨ (k ≠ 1 ∧ s = false ∧ cl = 0 ∧ cd = 0 ∧
    ((k = 2 ∧ a = 0 ∧ b = 0 ∧ 0 ≤ n) ∨ (k = 7 ∧ b = 0 ∧ n = 0 ∧ 0 ≤ a ∧ a < i) ∨ (k = 8 ∧ b = 0 ∧ 0 ≤ a ∧ a < i ∧ -128 ≤ n ∧ n ≤ 128) ∨
     (twoB k = true ∧ n = 0 ∧ 0 ≤ a ∧ a < i ∧ 0 ≤ b ∧ b < i)))
theorem termOk_iff {t : Tm} {i : Int} : termOk t i = true ↔ TermP t.k t.a t.b t.n t.q.1 (cnt t.q.2.1) (cnt t.q.2.2) (goodB t.q) i := by
  obtain ⟨k, a, b, n, s, l, d⟩ := t
  unfold termOk noneB kid TermP twoB
  dsimp only
  generalize goodB (s, l, d) = g
  generalize cnt l = cl
  generalize cnt d = cd
  by_cases h1 : k = 1
  · subst h1
    simp [and_assoc]
  rw [if_neg h1]
  by_cases h2 : k = 2
  · subst h2
    cases s <;> simp [and_assoc]
  rw [if_neg h2]
  by_cases h7 : k = 7
  · subst h7
    cases s <;> simp [and_assoc]
  rw [if_neg h7]
  by_cases h8 : k = 8
  · subst h8
    cases s <;> simp [and_assoc]
  rw [if_neg h8]
  by_cases h9 : k = 3 ∨ k = 4 ∨ k = 5 ∨ k = 6
  · rw [if_pos h9]
    cases s <;> simp [h1, h2, h7, h8, h9, and_assoc]
  · rw [if_neg h9]
    cases s <;> simp [h1, h2, h7, h8, h9]
theorem good19_ok : SoundF Tryz.prog 21 cgoodR := sound [(46, goodR), (44, isTwoR)] (orc_cons good7_ok (orc_cons two_ok orc_nil)) Tryz.func21 (by kernel_rfl) (by kernel_rfl) fun us u hR => by
  obtain ⟨c, hq, hn, rfl, hu⟩ := hR
  obtain ⟨r, hr⟩ : ∃ r, (cnt c).toNat < r := ⟨_, Nat.lt_succ_self _⟩
  refine ⟨r, fun C E hC => ?_⟩
  have kt : ∀ (i : Int) t, c[i.toNat]? = some t → C 46 [.agg [ub t.q.1, .l t.q.2.1, .l t.q.2.2]] (ub (goodB t.q)) := fun i t ht => hC 46 goodR (by simp) _ _ ⟨t.q, hq t (List.mem_of_getElem? ht), rfl, rfl⟩
  have k2 : ∀ k : Int, C 44 [ui k] (ub (twoB k)) := fun k => hC 44 isTwoR (by simp) _ _ ⟨k, rfl, rfl⟩
  have hm := fun i (h0 : 0 ≤ i) (h1 : i < cnt c) => nth_map (c := c) tU h0 h1
  have hc := cnt_map c tU
  have hc0 := cnt0 c
  unfold cU
  generalize c.map tU = xs at *
  cbv
  (repeat ((first | with_reducible refine ln fun _ _ _ => ?_ | refine tt ?_ | refine ff ?_ | refine tt ?_ rfl | with_reducible refine wr fun _ _ => ?_ | refine rp fun _ _ _ => ?_ | with_reducible refine bq ?_ | refine cl ?_ | refine sd ?_); cbv))
  refine lets [0, 3] ?_
  cbv
  refine loop_inv (fun j a h => ∃ i : Int, 0 ≤ i ∧ i ≤ cnt c ∧ j = (cnt c - i).toNat ∧ (∀ (x : Nat) t, (x : Int) < i → c[x]? = some t → termOk t x = true) ∧ a = [.s 7 xs, .lost, .lost, ui i, .lost, .lost, .lost, .lost, .lost, .lost, .lost, .lost, .lost, .lost, .lost, .lost, .lost, .lost, .lost, .lost, .lost, .lost, .lost, .lost, .lost, .lost, .lost, .lost, .lost, .lost, .lost, .lost, .lost, .lost, .lost, .lost, .lost, .lost, .lost, .lost, .lost, .lost, .lost, .lost, .lost, .lost, .lost, .lost, .lost, .lost, .lost, .lost, .lost, .lost, .lost, .lost, .lost, .lost, .lost, .lost, .lost, .lost, .lost, .lost, .lost, .lost, .lost, .lost, .lost, .lost, .lost, .lost, .lost, .lost, .lost, .lost, .lost, .lost, .lost, .lost, .lost, .lost, .lost, .lost, .lost, .lost, .lost, .lost, .lost, .lost, .lost, .lost, .lost, .lost, .lost, .lost, .lost, .lost, .lost, .lost, .lost, .lost, .lost, .lost, .lost, .lost, .lost, .lost, .lost, .lost, .lost, .lost, .lost, .lost, .lost, .lost, .lost, .lost, .lost, .lost, .lost, .lost, .lost, .lost, .lost, .lost, .lost, .lost, .lost, .lost, .lost, .lost, .lost, .lost, .lost, .lost, .lost, .lost, .lost, .lost, .lost, .lost, .lost, .lost, .lost, .lost, .lost, .lost, .lost, .lost, .lost] ∧ h = []) ?_ r (cnt c).toNat _ _ hr ⟨0, by omega, by omega, by omega, fun x t hx _ => absurd hx (by omega), rfl, rfl⟩
  rintro j a h K ⟨i, h0, h1, hj, hg, rfl, rfl⟩ hK
  rcases Decidable.em (i < cnt c) with hlt | hlt
  · obtain ⟨t, ht, hx⟩ := hm i h0 hlt
    have k1 := kt i t ht
    have hT : termOk t i = true → ∀ (x : Nat) t, (x : Int) < i + 1 → c[x]? = some t → termOk t x = true := fun hb x t' hlx hx' => by
      by_cases e : (x : Int) = i
      · have : x = i.toNat := by omega
        rw [this, ht] at hx'
        injection hx' with hx'
        rw [← hx', e]
        exact hb
      · exact hg x t' (by omega) hx'
    have hF : ¬ termOk t i = true → goodC c = false := fun hb => by
      rw [Bool.eq_false_iff]
      intro hh
      have := goodC_iff.1 hh i.toNat t ht
      rw [show ((i.toNat : Nat) : Int) = i by omega] at this
      exact hb this
    rw [termOk_iff] at hT hF
    obtain ⟨kd, ta, tb, m, s, l, d⟩ := t
    have k3 := k2 kd
    dsimp only at hT hF k1
    unfold TermP at hT hF
    have htw : twoB kd = true → kd ≠ 1 ∧ kd ≠ 2 ∧ kd ≠ 7 ∧ kd ≠ 8 := fun h => by
      unfold twoB at h
      have := of_decide_eq_true h
      omega
    generalize goodB (s, l, d) = g at *
    generalize twoB kd = tw at *
    clear kt k2 hm hg ht hq
    have l0 := cnt0 l
    have d0 := cnt0 d
    cbv
    (repeat ((first | with_reducible refine ln fun _ _ _ => ?_ | refine tt ?_); cbv))
    refine el ?_ (by omega) hx
    cbv
    rcases Decidable.em (ta < 0) with z1 | z1
    · rw [hF (by rintro (⟨h1, h2, h3, h4, h5⟩ | ⟨h1, h2, h3, h4, h | h | h | h⟩) <;> omega)] at hu
      clear hF hT hK
      (repeat ((refine tt ?_); cbv))
      exact hu.symm
    rcases Decidable.em (tb < 0) with z2 | z2
    · rw [hF (by rintro (⟨h1, h2, h3, h4, h5⟩ | ⟨h1, h2, h3, h4, h | h | h | h⟩) <;> omega)] at hu
      clear hF hT hK
      (repeat ((first | refine tt ?_ | refine ff ?_); cbv))
      exact hu.symm
    rcases Decidable.em (kd = 1) with y1 | y1
    · skip
      rcases (Decidable.em (ta = 0)).symm with z3 | z3
      · rw [hF (by rintro (⟨h1, h2, h3, h4, h5⟩ | ⟨h1, h2, h3, h4, h | h | h | h⟩) <;> omega)] at hu
        clear hF hT hK
        (repeat ((first | refine tt ?_ | refine ff ?_ | with_reducible refine bq ?_); cbv))
        exact hu.symm
      rcases (Decidable.em (tb = 0)).symm with z4 | z4
      · rw [hF (by rintro (⟨h1, h2, h3, h4, h5⟩ | ⟨h1, h2, h3, h4, h | h | h | h⟩) <;> omega)] at hu
        clear hF hT hK
        (repeat ((first | refine tt ?_ | refine ff ?_ | with_reducible refine bq ?_); cbv))
        exact hu.symm
      rcases (Decidable.em (m = 0)).symm with z5 | z5
      · rw [hF (by rintro (⟨h1, h2, h3, h4, h5⟩ | ⟨h1, h2, h3, h4, h | h | h | h⟩) <;> omega)] at hu
        clear hF hT hK
        (repeat ((first | refine tt ?_ | refine ff ?_ | with_reducible refine bq ?_); cbv))
        exact hu.symm
      cases g
      · rw [hF (by rintro (⟨h1, h2, h3, h4, h5⟩ | ⟨h1, h2, h3, h4, h | h | h | h⟩) <;> first | omega | (cases h5; done))] at hu
        clear hF hT hK
        (repeat ((first | refine tt ?_ | refine ff ?_ | with_reducible refine bq ?_ | refine cl ?_); cbv))
        exact hu.symm
      have hT := hT (.inl ⟨y1, by omega, by omega, by omega, rfl⟩)
      clear hF
      (repeat ((first | refine tt ?_ | refine ff ?_ | with_reducible refine wr fun _ _ => ?_ | with_reducible refine bq ?_ | refine cl ?_); cbv))
      rename_i q' hq'
      refine lets [0, 3] ?_
      exact hK (cnt c - (i + 1)).toNat _ _ (by omega) ⟨i + 1, by omega, by omega, rfl, hT, by rw [hq']; rfl, rfl⟩
    cases s
    rotate_left
    · rw [hF (by rintro (⟨h1, h2, h3, h4, h5⟩ | ⟨h1, h2, h3, h4, h | h | h | h⟩) <;> first | omega | (cases h2; done))] at hu
      clear hF hT hK
      (repeat ((first | refine tt ?_ | refine ff ?_); cbv))
      exact hu.symm
    rcases (Decidable.em (cnt l = 0)).symm with z6 | z6
    · rw [hF (by rintro (⟨h1, h2, h3, h4, h5⟩ | ⟨h1, h2, h3, h4, h | h | h | h⟩) <;> omega)] at hu
      clear hF hT hK
      (repeat ((first | with_reducible refine ln fun _ _ _ => ?_ | refine tt ?_ | refine ff ?_); cbv))
      exact hu.symm
    rcases (Decidable.em (cnt d = 0)).symm with z7 | z7
    · rw [hF (by rintro (⟨h1, h2, h3, h4, h5⟩ | ⟨h1, h2, h3, h4, h | h | h | h⟩) <;> omega)] at hu
      clear hF hT hK
      (repeat ((first | with_reducible refine ln fun _ _ _ => ?_ | refine tt ?_ | refine ff ?_); cbv))
      exact hu.symm
    rcases Decidable.em (kd = 2) with y2 | y2
    · skip
      rcases (Decidable.em (ta = 0)).symm with z8 | z8
      · rw [hF (by rintro (⟨h1, h2, h3, h4, h5⟩ | ⟨h1, h2, h3, h4, h | h | h | h⟩) <;> first | omega | (have := htw h.1; omega))] at hu
        clear hF hT hK
        (repeat ((first | with_reducible refine ln fun _ _ _ => ?_ | refine tt ?_ | refine ff ?_ | with_reducible refine bq ?_); cbv))
        exact hu.symm
      rcases (Decidable.em (tb = 0)).symm with z9 | z9
      · rw [hF (by rintro (⟨h1, h2, h3, h4, h5⟩ | ⟨h1, h2, h3, h4, h | h | h | h⟩) <;> first | omega | (have := htw h.1; omega))] at hu
        clear hF hT hK
        (repeat ((first | with_reducible refine ln fun _ _ _ => ?_ | refine tt ?_ | refine ff ?_ | with_reducible refine bq ?_); cbv))
        exact hu.symm
      rcases (Decidable.em (0 ≤ m)).symm with z10 | z10
      · rw [hF (by rintro (⟨h1, h2, h3, h4, h5⟩ | ⟨h1, h2, h3, h4, h | h | h | h⟩) <;> omega)] at hu
        clear hF hT hK
        (repeat ((first | with_reducible refine ln fun _ _ _ => ?_ | refine tt ?_ | refine ff ?_ | with_reducible refine bq ?_); cbv))
        exact hu.symm
      have hT := hT (.inr ⟨y1, rfl, by omega, by omega, .inl ⟨y2, by omega, by omega, by omega⟩⟩)
      clear hF
      (repeat ((first | with_reducible refine ln fun _ _ _ => ?_ | refine tt ?_ | refine ff ?_ | with_reducible refine wr fun _ _ => ?_ | with_reducible refine bq ?_); cbv))
      rename_i q' hq'
      refine lets [0, 3] ?_
      exact hK (cnt c - (i + 1)).toNat _ _ (by omega) ⟨i + 1, by omega, by omega, rfl, hT, by rw [hq']; rfl, rfl⟩
    rcases Decidable.em (kd = 7) with y7 | y7
    · skip
      rcases (Decidable.em (ta < i)).symm with z11 | z11
      · rw [hF (by rintro (⟨h1, h2, h3, h4, h5⟩ | ⟨h1, h2, h3, h4, h | h | h | h⟩) <;> omega)] at hu
        clear hF hT hK
        (repeat ((first | with_reducible refine ln fun _ _ _ => ?_ | refine tt ?_ | refine ff ?_ | with_reducible refine bq ?_); cbv))
        exact hu.symm
      rcases (Decidable.em (tb = 0)).symm with z12 | z12
      · rw [hF (by rintro (⟨h1, h2, h3, h4, h5⟩ | ⟨h1, h2, h3, h4, h | h | h | h⟩) <;> first | omega | (have := htw h.1; omega))] at hu
        clear hF hT hK
        (repeat ((first | with_reducible refine ln fun _ _ _ => ?_ | refine tt ?_ | refine ff ?_ | with_reducible refine bq ?_); cbv))
        exact hu.symm
      rcases (Decidable.em (m = 0)).symm with z13 | z13
      · rw [hF (by rintro (⟨h1, h2, h3, h4, h5⟩ | ⟨h1, h2, h3, h4, h | h | h | h⟩) <;> omega)] at hu
        clear hF hT hK
        (repeat ((first | with_reducible refine ln fun _ _ _ => ?_ | refine tt ?_ | refine ff ?_ | with_reducible refine bq ?_); cbv))
        exact hu.symm
      have hT := hT (.inr ⟨y1, rfl, by omega, by omega, .inr (.inl ⟨y7, by omega, by omega, by omega, by omega⟩)⟩)
      clear hF
      (repeat ((first | with_reducible refine ln fun _ _ _ => ?_ | refine tt ?_ | refine ff ?_ | with_reducible refine wr fun _ _ => ?_ | with_reducible refine bq ?_); cbv))
      rename_i q' hq'
      refine lets [0, 3] ?_
      exact hK (cnt c - (i + 1)).toNat _ _ (by omega) ⟨i + 1, by omega, by omega, rfl, hT, by rw [hq']; rfl, rfl⟩
    rcases Decidable.em (kd = 8) with y8 | y8
    · skip
      rcases (Decidable.em (ta < i)).symm with z14 | z14
      · rw [hF (by rintro (⟨h1, h2, h3, h4, h5⟩ | ⟨h1, h2, h3, h4, h | h | h | h⟩) <;> omega)] at hu
        clear hF hT hK
        (repeat ((first | with_reducible refine ln fun _ _ _ => ?_ | refine tt ?_ | refine ff ?_ | with_reducible refine bq ?_); cbv))
        exact hu.symm
      rcases (Decidable.em (tb = 0)).symm with z15 | z15
      · rw [hF (by rintro (⟨h1, h2, h3, h4, h5⟩ | ⟨h1, h2, h3, h4, h | h | h | h⟩) <;> first | omega | (have := htw h.1; omega))] at hu
        clear hF hT hK
        (repeat ((first | with_reducible refine ln fun _ _ _ => ?_ | refine tt ?_ | refine ff ?_ | with_reducible refine bq ?_); cbv))
        exact hu.symm
      rcases (Decidable.em (-128 ≤ m)).symm with z16 | z16
      · rw [hF (by rintro (⟨h1, h2, h3, h4, h5⟩ | ⟨h1, h2, h3, h4, h | h | h | h⟩) <;> omega)] at hu
        clear hF hT hK
        (repeat ((first | with_reducible refine ln fun _ _ _ => ?_ | refine tt ?_ | refine ff ?_ | with_reducible refine bq ?_); cbv))
        exact hu.symm
      rcases (Decidable.em (m ≤ 128)).symm with z17 | z17
      · rw [hF (by rintro (⟨h1, h2, h3, h4, h5⟩ | ⟨h1, h2, h3, h4, h | h | h | h⟩) <;> omega)] at hu
        clear hF hT hK
        (repeat ((first | with_reducible refine ln fun _ _ _ => ?_ | refine tt ?_ | refine ff ?_ | with_reducible refine bq ?_); cbv))
        exact hu.symm
      have hT := hT (.inr ⟨y1, rfl, by omega, by omega, .inr (.inr (.inl ⟨y8, by omega, by omega, by omega, by omega, by omega⟩))⟩)
      clear hF
      (repeat ((first | with_reducible refine ln fun _ _ _ => ?_ | refine tt ?_ | refine ff ?_ | with_reducible refine wr fun _ _ => ?_ | with_reducible refine bq ?_); cbv))
      rename_i q' hq'
      refine lets [0, 3] ?_
      exact hK (cnt c - (i + 1)).toNat _ _ (by omega) ⟨i + 1, by omega, by omega, rfl, hT, by rw [hq']; rfl, rfl⟩
    cases tw
    · rw [hF (by rintro (⟨h1, h2, h3, h4, h5⟩ | ⟨h1, h2, h3, h4, h | h | h | h⟩) <;> first | omega | (cases h.1; done))] at hu
      clear hF hT hK
      (repeat ((first | with_reducible refine ln fun _ _ _ => ?_ | refine tt ?_ | refine ff ?_ | with_reducible refine bq ?_ | refine cl ?_); cbv))
      exact hu.symm
    rcases (Decidable.em (ta < i)).symm with z18 | z18
    · rw [hF (by rintro (⟨h1, h2, h3, h4, h5⟩ | ⟨h1, h2, h3, h4, h | h | h | h⟩) <;> omega)] at hu
      clear hF hT hK
      (repeat ((first | with_reducible refine ln fun _ _ _ => ?_ | refine tt ?_ | refine ff ?_ | with_reducible refine bq ?_ | refine cl ?_); cbv))
      exact hu.symm
    rcases (Decidable.em (tb < i)).symm with z19 | z19
    · rw [hF (by rintro (⟨h1, h2, h3, h4, h5⟩ | ⟨h1, h2, h3, h4, h | h | h | h⟩) <;> omega)] at hu
      clear hF hT hK
      (repeat ((first | with_reducible refine ln fun _ _ _ => ?_ | refine tt ?_ | refine ff ?_ | with_reducible refine bq ?_ | refine cl ?_); cbv))
      exact hu.symm
    rcases (Decidable.em (m = 0)).symm with z20 | z20
    · rw [hF (by rintro (⟨h1, h2, h3, h4, h5⟩ | ⟨h1, h2, h3, h4, h | h | h | h⟩) <;> omega)] at hu
      clear hF hT hK
      (repeat ((first | with_reducible refine ln fun _ _ _ => ?_ | refine tt ?_ | refine ff ?_ | with_reducible refine bq ?_ | refine cl ?_); cbv))
      exact hu.symm
    have hT := hT (.inr ⟨y1, rfl, by omega, by omega, .inr (.inr (.inr ⟨rfl, by omega, by omega, by omega, by omega, by omega⟩))⟩)
    clear hF
    (repeat ((first | with_reducible refine ln fun _ _ _ => ?_ | refine tt ?_ | refine ff ?_ | with_reducible refine wr fun _ _ => ?_ | with_reducible refine bq ?_ | refine cl ?_); cbv))
    rename_i q' hq'
    refine lets [0, 3] ?_
    exact hK (cnt c - (i + 1)).toNat _ _ (by omega) ⟨i + 1, by omega, by omega, rfl, hT, by rw [hq']; rfl, rfl⟩
  · rw [goodC_iff.2 fun x t hx => hg x t (by have := (List.getElem?_eq_some_iff.1 hx).1; unfold cnt at h1 hlt; omega) hx] at hu
    clear hg
    cbv
    (repeat ((first | with_reducible refine ln fun _ _ _ => ?_ | refine ff ?_); cbv))
    exact hu.symm
def byD (t : Tm) (i : Int) : Prop := (t.k = 6 ∧ t.b = i) ∨ (t.k = 8 ∧ t.n < 0 ∧ t.a = i)
theorem byD_kid {t : Tm} {i : Int} (h : byD t i) : i ∈ kids t := by
 rcases h with h | h
 ·rw [kids_2 (by omega)]
  simp [h.2]
 ·rw [kids_1 (by omega)]
  simp [h.2.2]
theorem set_other {vs : List R3} {q : Nat} {w : R3} {a : Int} (h : a.toNat ≠ q) : at3 (vs.set q w) a = at3 vs a := by
 unfold at3
 rw [List.getElem?_set_ne (fun e => h e.symm)]
theorem set_self3 {vs : List R3} {a : Nat} {w : R3} (h : a < vs.length) : at3 (vs.set a w) (a : Int) = w := by
 unfold at3
 rw [Int.toNat_natCast, List.getElem?_set_self h]
 rfl
theorem evT_congr {vs ws xs : List R3} {t : Tm} {i : Int} (ht : termOk t i = true) (h : ∀ k ∈ kids t, at3 vs k = at3 ws k) : evT vs xs t = evT ws xs t := by
 unfold evT
 rcases term_cases ht with h1 | ⟨h1, _⟩ | ⟨h1, _⟩ | ⟨h1, _⟩ | ⟨h1, _⟩
 ·rw [if_pos h1, if_pos h1]
 ·rw [if_neg (by omega), if_pos h1, if_neg (by omega), if_pos h1]
 ·rw [kids_2 h1] at h
  rw [h t.a (by simp), h t.b (by simp)]
 ·rw [kids_1 (.inl h1)] at h
  rw [h t.a (by simp)]
  simp [h1]
 ·rw [kids_1 (.inr h1)] at h
  rw [h t.a (by simp)]
  simp [h1]
theorem lim_err {q : Rat} : ((lim q).2.2.2 = 0 ∧ goodB (to3 (lim q)) = true) ∨ (lim q).2.2.2 = 2 := by
 unfold lim
 split
 ·rename_i h
  exact .inl ⟨rfl, good_ratOf h⟩
 ·exact .inr rfl
theorem neg_good {a : R3} (h : goodB a = true) : goodB (negS a) = true := by
 obtain ⟨q, hq, rfl⟩ := good_iff.1 h
 unfold negS
 rw [if_pos h, qOf_ratOf]
 exact good_ratOf ((fits_neg q).trans hq)
theorem evT_kinds {vs xs : List R3} {t : Tm} {i : Int} (ht : termOk t i = true) (hk : ∀ k ∈ kids t, goodB (at3 vs k) = true) (hx : t.k = 2 → goodB (at3 xs t.n) = true) :
  ((evT vs xs t).2.2.2 = 0 ∧ goodB (to3 (evT vs xs t)) = true ∧ ∀ d : Int, byD t d → qOf (at3 vs d) ≠ 0) ∨ (evT vs xs t).2.2.2 = 2 ∨ ((evT vs xs t).2.2.2 = 3 ∧ ∃ d : Int, byD t d ∧ qOf (at3 vs d) = 0) := by
 have hby : t.k ≠ 6 → t.k ≠ 8 → ∀ d : Int, byD t d → qOf (at3 vs d) ≠ 0 := fun h6 h8 d hd => by
  rcases hd with hd | hd
  ·exact absurd hd.1 h6
  ·exact absurd hd.1 h8
 unfold evT
 rcases term_cases ht with h1 | ⟨h1, _⟩ | ⟨h1, _⟩ | ⟨h1, _⟩ | ⟨h1, _, h2, h3⟩
 ·rw [if_pos h1]
  rcases termOk_iff.1 ht with h | h
  ·exact .inl ⟨rfl, neg_good (neg_good h.2.2.2.2), hby (by omega) (by omega)⟩
  ·exact absurd h1 h.1
 ·rw [if_neg (by omega), if_pos h1]
  exact .inl ⟨rfl, neg_good (neg_good (hx h1)), hby (by omega) (by omega)⟩
 ·rw [kids_2 h1] at hk
  have ga := hk t.a (by simp)
  have gb := hk t.b (by simp)
  have gab : (goodB (at3 vs t.a) && goodB (at3 vs t.b)) = true := by rw [ga, gb]; rfl
  rw [if_neg (by omega), if_neg (by omega)]
  rcases h1 with h1 | h1 | h1 | h1
  ·rw [if_pos h1]
   unfold addS
   rw [if_pos gab]
   rcases lim_err (q := qOf (at3 vs t.a) + qOf (at3 vs t.b)) with h | h
   ·exact .inl ⟨h.1, h.2, hby (by omega) (by omega)⟩
   ·exact .inr (.inl h)
  ·rw [if_neg (by omega), if_pos h1]
   unfold subS
   rw [if_pos gab]
   rcases lim_err (q := qOf (at3 vs t.a) - qOf (at3 vs t.b)) with h | h
   ·exact .inl ⟨h.1, h.2, hby (by omega) (by omega)⟩
   ·exact .inr (.inl h)
  ·rw [if_neg (by omega), if_neg (by omega), if_pos h1]
   unfold mulS
   rw [if_pos gab]
   rcases lim_err (q := qOf (at3 vs t.a) * qOf (at3 vs t.b)) with h | h
   ·exact .inl ⟨h.1, h.2, hby (by omega) (by omega)⟩
   ·exact .inr (.inl h)
  ·rw [if_neg (by omega), if_neg (by omega), if_neg (by omega), if_pos h1]
   unfold divS
   rw [if_pos gab]
   by_cases hz : qOf (at3 vs t.b) = 0
   ·rw [if_pos hz]
    exact .inr (.inr ⟨rfl, t.b, .inl ⟨h1, rfl⟩, hz⟩)
   ·rw [if_neg hz]
    rcases lim_err (q := qOf (at3 vs t.a) / qOf (at3 vs t.b)) with h | h
    ·refine .inl ⟨h.1, h.2, fun d hd => ?_⟩
     rcases hd with hd | hd
     ·rw [← hd.2]
      exact hz
     ·omega
    ·exact .inr (.inl h)
 ·rw [kids_1 (.inl h1)] at hk
  rw [if_neg (by omega), if_neg (by omega), if_neg (by omega), if_neg (by omega), if_neg (by omega), if_neg (by omega), if_pos h1]
  exact .inl ⟨rfl, neg_good (hk t.a (by simp)), hby (by omega) (by omega)⟩
 ·rw [kids_1 (.inr h1)] at hk
  have ga := hk t.a (by simp)
  rw [if_neg (by omega), if_neg (by omega), if_neg (by omega), if_neg (by omega), if_neg (by omega), if_neg (by omega), if_neg (by omega)]
  unfold powS
  rw [if_pos ga, if_pos ⟨h2, h3⟩]
  by_cases hz : t.n < 0 ∧ qOf (at3 vs t.a) = 0
  ·rw [if_pos hz]
   exact .inr (.inr ⟨rfl, t.a, .inr ⟨h1, hz.1, rfl⟩, hz.2⟩)
  ·rw [if_neg hz]
   rcases lim_err (q := qOf (at3 vs t.a) ^ t.n) with h | h
   ·refine .inl ⟨h.1, h.2, fun d hd => ?_⟩
    rcases hd with hd | hd
    ·omega
    ·rw [← hd.2.2]
     exact fun e => hz ⟨hd.2.1, e⟩
   ·exact .inr (.inl h)
structure Set1 (c : List Tm) (xs : List R3) (nd : List Bool) : Prop where
 ok : ∀ (j : Nat) t, c[j]? = some t → termOk t j = true
 kid : ∀ (j : Nat) t, nd[j]? = some true → c[j]? = some t → ∀ k ∈ kids t, nd[k.toNat]? = some true
 x : ∀ (j : Nat) t, nd[j]? = some true → c[j]? = some t → t.k = 2 → goodB (at3 xs t.n) = true
theorem kid_lt {c : List Tm} {xs : List R3} {nd : List Bool} (h : Set1 c xs nd) {j : Nat} {t : Tm} (ht : c[j]? = some t) {k : Int} (hk : k ∈ kids t) : 0 ≤ k ∧ k < (j : Int) := kids_in (h.ok j t ht) k hk
def Fix (c : List Tm) (xs : List R3) (nd : List Bool) (q : Nat) (vs : List R3) : Prop := ∀ (j : Nat) t, j < q → nd[j]? = some true → c[j]? = some t → evT vs xs t = to4 (at3 vs j) ∧ goodB (at3 vs j) = true
theorem to4_to3 {r : R4} (h : r.2.2.2 = 0) : to4 (to3 r) = r := by
 obtain ⟨s, l, d, e⟩ := r
 have h : e = 0 := h
 subst h
 rfl
theorem ev_step {c : List Tm} {xs : List R3} {nd : List Bool} {q : Nat} {vs : List R3} (h : evN c xs nd (q + 1) = (vs, 0)) : ∃ ws, evN c xs nd q = (ws, 0) ∧ ((nd[q]? = some true ∧ ∃ t, c[q]? = some t ∧ (evT ws xs t).2.2.2 = 0 ∧ vs = ws.set q (to3 (evT ws xs t))) ∨ (nd[q]? ≠ some true ∧ vs = ws) ∨ (c[q]? = none ∧ vs = ws)) := by
 obtain ⟨ws, e⟩ : ∃ ws e, evN c xs nd q = (ws, e) := ⟨_, _, rfl⟩
 obtain ⟨e, he⟩ := e
 rw [evN, he] at h
 by_cases h0 : e = 0
 ·subst h0
  refine ⟨ws, he, ?_⟩
  rw [if_pos rfl, evStep] at h
  by_cases hb : nd[q]? = some true
  ·rw [if_pos hb] at h
   cases ht : c[q]? with
   | none =>
    rw [ht] at h
    injection h with h
    exact .inr (.inr ⟨rfl, h.symm⟩)
   | some t =>
    rw [ht] at h
    dsimp only at h
    split at h
    ·rename_i h0
     injection h with h
     exact .inl ⟨hb, t, rfl, h0, h.symm⟩
    ·rename_i h0
     injection h with _ h
     exact absurd h h0
  ·rw [if_neg hb] at h
   injection h with h
   exact .inr (.inl ⟨hb, h.symm⟩)
 ·rw [if_neg h0] at h
  injection h with _ h
  exact absurd h h0
theorem fix_of {c : List Tm} {xs : List R3} {nd : List Bool} (hs : Set1 c xs nd) : ∀ (q : Nat) (vs : List R3), evN c xs nd q = (vs, 0) → Fix c xs nd q vs
 | 0, _, _ => fun j t h => absurd h (by omega)
 | q + 1, vs, h => by
  obtain ⟨ws, hw, h⟩ := ev_step h
  have ih := fix_of hs q ws hw
  have old : ∀ w, ∀ (j : Nat) t, j < q → nd[j]? = some true → c[j]? = some t → evT (ws.set q w) xs t = to4 (at3 (ws.set q w) j) ∧ goodB (at3 (ws.set q w) j) = true := fun w j t hj hb ht => by
   rw [set_other (by omega), evT_congr (ws := ws) (hs.ok j t ht) fun k hk => set_other (by have := kid_lt hs ht hk; omega)]
   exact ih j t hj hb ht
  rcases h with ⟨hb, t, ht, h0, rfl⟩ | ⟨hb, rfl⟩ | ⟨hn, rfl⟩
  ·intro j t' hj hb' ht'
   by_cases e : j = q
   ·subst e
    rw [ht] at ht'
    injection ht' with ht'
    subst ht'
    have hl : j < ws.length := by
     have := evN_len c xs nd j
     rw [hw] at this
     have this : ws.length = c.length := this
     have := (List.getElem?_eq_some_iff.1 ht).1
     omega
    have hkd : ∀ k ∈ kids t, goodB (at3 ws k) = true := fun k hk => by
     have h1 := kid_lt hs ht hk
     have h2 := hs.kid j t hb ht k hk
     have h3 := (List.getElem?_eq_some_iff.1 ht).1
     obtain ⟨tk, h4⟩ : ∃ tk, c[k.toNat]? = some tk := ⟨_, List.getElem?_eq_getElem (by omega)⟩
     have := (ih k.toNat tk (by omega) h2 h4).2
     rwa [show ((k.toNat : Nat) : Int) = k by omega] at this
    rw [set_self3 hl, evT_congr (ws := ws) (hs.ok j t ht) fun k hk => set_other (by have := kid_lt hs ht hk; omega), to4_to3 h0]
    refine ⟨rfl, ?_⟩
    rcases evT_kinds (hs.ok j t ht) hkd (hs.x j t hb ht) with h | h | h
    ·exact h.2.1
    ·omega
    ·omega
   ·exact old _ j t' (by omega) hb' ht'
  ·intro j t hj hb' ht
   by_cases e : j = q
   ·subst e
    exact absurd hb' hb
   ·exact ih j t (by omega) hb' ht
  ·intro j t hj hb' ht
   by_cases e : j = q
   ·subst e
    rw [hn] at ht
    cases ht
   ·exact ih j t (by omega) hb' ht
theorem set1_of {c : List Tm} {i : Int} {xs : List R3} (h : madeB c i xs = true) : Set1 c xs (needs c i.toNat) := by
 unfold madeB mayC at h
 simp only [Bool.and_eq_true, decide_eq_true_eq] at h
 obtain ⟨⟨⟨⟨h0, h1⟩, hg⟩, hx⟩, hr⟩ := h
 have ha := ahead_of hg
 refine ⟨fun j t ht => goodC_iff.1 hg j t ht, fun j t hb ht k hk => needs_kid ha ht hk hb, fun j t hb ht hk => ?_⟩
 have hl := refs_iff.1 hr j t ht hb hk
 have h5 : 0 ≤ t.n := by
  rcases term_cases (goodC_iff.1 hg j t ht) with h | ⟨_, h⟩ | ⟨h, _⟩ | ⟨h, _⟩ | ⟨h, _⟩ <;> first | exact h | omega
 unfold cnt at hl
 have : at3 xs t.n = xs[t.n.toNat]'(by omega) := by
  unfold at3
  rw [List.getElem?_eq_getElem (by omega)]
  rfl
 rw [this]
 exact List.all_eq_true.1 hx _ (List.getElem_mem _)
end Go.Proofs.YtjkcmnedolfkjaaGreat.Rd
end
section
set_option linter.unusedVariables false
set_option linter.unusedSimpArgs false
namespace Go.Proofs.YtjkcmnedolfkjaaGreat.Rd
open Go Go.RowKit Go.Proofs.YtjkcmnedolfkjaaGreatW.PrintWords Go.Proofs.YtjkcmnedolfkjaaGreat.PL Go.Proofs.YtjkcmnedolfkjaaGreat.Num

def atA {α : Type} (z : α) (v : List α) (i : Int) : α := (v[i.toNat]?).getD z
def foldA {α : Type} (f : List α → Tm → α) : List α → List Tm → List α
 | v, [] => v
 | v, t :: c => foldA f (v ++ [f v t]) c
theorem foldA_app {α : Type} (f : List α → Tm → α) : ∀ (c e : List Tm) (v : List α), foldA f v (c ++ e) = foldA f (foldA f v c) e
 | [], e, v => rfl
 | t :: c, e, v => foldA_app f c e _
theorem foldA_len {α : Type} (f : List α → Tm → α) : ∀ (c : List Tm) (v : List α), (foldA f v c).length = v.length + c.length
 | [], v => rfl
 | t :: c, v => by
  have := foldA_len f c (v ++ [f v t])
  show (foldA f (v ++ [f v t]) c).length = _
  rw [this, List.length_append, List.length_cons]
  simp
  omega
theorem foldA_pre {α : Type} (f : List α → Tm → α) : ∀ (c : List Tm) (v : List α), ∃ w, foldA f v c = v ++ w
 | [], v => ⟨[], (List.append_nil v).symm⟩
 | t :: c, v => by
  obtain ⟨w, h⟩ := foldA_pre f c (v ++ [f v t])
  exact ⟨f v t :: w, by show foldA f (v ++ [f v t]) c = _; rw [h, List.append_assoc]; rfl⟩
theorem foldA_map {α β : Type} (g : α → β) {f : List α → Tm → α} {f' : List β → Tm → β} (hf : ∀ v t, g (f v t) = f' (v.map g) t) : ∀ (c : List Tm) (v : List α), (foldA f v c).map g = foldA f' (v.map g) c
 | [], v => rfl
 | t :: c, v => by
  show (foldA f (v ++ [f v t]) c).map g = foldA f' (v.map g ++ [f' (v.map g) t]) c
  rw [foldA_map g hf c, List.map_append, List.map_cons, hf]
  rfl
theorem atA_app {α : Type} {z : α} {v w : List α} {i : Int} (h0 : 0 ≤ i) (h : i < cnt v) : atA z (v ++ w) i = atA z v i := by
 unfold atA
 unfold cnt at h
 rw [List.getElem?_append_left (by omega)]
theorem atA_last {α : Type} {z : α} {v : List α} {x : α} {i : Int} (h : i = cnt v) : atA z (v ++ [x]) i = x := by
 unfold atA
 unfold cnt at h
 rw [List.getElem?_append_right (by omega), show i.toNat - v.length = 0 by omega]
 rfl
theorem atA_map {α β : Type} (g : α → β) (z : α) (v : List α) (i : Int) : g (atA z v i) = atA (g z) (v.map g) i := by
 unfold atA
 rw [List.getElem?_map]
 cases v[i.toNat]? <;> rfl
structure Kidly {α : Type} (z : α) (f : List α → Tm → α) : Prop where
 out : ∀ (v w : List α) (t : Tm) (i : Int), termOk t i = true → (∀ k ∈ kids t, atA z v k = atA z w k) → f v t = f w t
theorem foldA_at {α : Type} {z : α} {f : List α → Tm → α} (hf : Kidly z f) {c : List Tm} {j : Nat} {t : Tm} (ht : c[j]? = some t) (hok : termOk t j = true) : atA z (foldA f [] c) j = f (foldA f [] c) t := by
 obtain ⟨hj, rfl⟩ := List.getElem?_eq_some_iff.1 ht
 have hc : c = c.take j ++ ([c[j]] ++ c.drop (j + 1)) := by simp
 have hl : (foldA f [] (c.take j)).length = j := by
  rw [foldA_len, List.length_take]
  simp
  omega
 have e : foldA f [] c = foldA f (foldA f [] (c.take j) ++ [f (foldA f [] (c.take j)) c[j]]) (c.drop (j + 1)) := by
  conv => lhs; rw [hc]
  rw [foldA_app]
  rfl
 obtain ⟨w, hw⟩ := foldA_pre f (c.drop (j + 1)) (foldA f [] (c.take j) ++ [f (foldA f [] (c.take j)) c[j]])
 rw [e, hw, atA_app (by omega) (by unfold cnt; rw [List.length_append, hl]; simp; omega), atA_last (by unfold cnt; omega)]
 refine hf.out _ _ _ j hok fun k hk => ?_
 have := kids_in hok k hk
 rw [List.append_assoc, atA_app this.1 (by unfold cnt; omega)]
theorem foldA_old {α : Type} {z : α} (f : List α → Tm → α) {c e : List Tm} {i : Int} (h0 : 0 ≤ i) (h : i < cnt c) : atA z (foldA f [] (c ++ e)) i = atA z (foldA f [] c) i := by
 rw [foldA_app]
 obtain ⟨w, hw⟩ := foldA_pre f e (foldA f [] c)
 rw [hw, atA_app h0]
 unfold cnt at *
 rw [foldA_len]
 simpa using h
theorem foldA_new {α : Type} {z : α} (f : List α → Tm → α) {c : List Tm} {t : Tm} {i : Int} (h : i = cnt c) : atA z (foldA f [] (c ++ [t])) i = f (foldA f [] c) t := by
 rw [foldA_app]
 refine atA_last ?_
 unfold cnt at *
 rw [foldA_len]
 simpa using h
def opQ (v : Int → Rat) (xs : List R3) (t : Tm) : Rat :=
 if t.k = 1 then qOf t.q else if t.k = 2 then qOf (at3 xs t.n) else if t.k = 3 then v t.a + v t.b else if t.k = 4 then v t.a - v t.b
 else if t.k = 5 then v t.a * v t.b else if t.k = 6 then v t.a / v t.b else if t.k = 7 then -v t.a else v t.a ^ t.n
def quoD (a b p q : Rat) : Rat := (p - a / b * q) / b
def dopQ (v d : Int → Rat) (s : Int) (t : Tm) : Rat :=
 if t.k = 1 then 0 else if t.k = 2 then (if t.n = s then 1 else 0) else if t.k = 3 then d t.a + d t.b else if t.k = 4 then d t.a - d t.b
 else if t.k = 5 then d t.a * v t.b + v t.a * d t.b else if t.k = 6 then quoD (v t.a) (v t.b) (d t.a) (d t.b) else if t.k = 7 then -d t.a
 else (t.n : Rat) * v t.a ^ (t.n - 1) * d t.a
def quoE (a b p q p' q' r s : Rat) : Rat := (r - quoD a b p' q' * q - quoD a b p q * q' - a / b * s) / b
def eopQ (v d d' e : Int → Rat) (t : Tm) : Rat :=
 if t.k = 1 then 0 else if t.k = 2 then 0 else if t.k = 3 then e t.a + e t.b else if t.k = 4 then e t.a - e t.b
 else if t.k = 5 then e t.a * v t.b + d t.a * d' t.b + (d' t.a * d t.b + v t.a * e t.b) else if t.k = 6 then quoE (v t.a) (v t.b) (d t.a) (d t.b) (d' t.a) (d' t.b) (e t.a) (e t.b) else if t.k = 7 then -e t.a
 else (t.n : Rat) * ((t.n - 1 : Int) : Rat) * v t.a ^ (t.n - 1 - 1) * d t.a * d' t.a + (t.n : Rat) * v t.a ^ (t.n - 1) * e t.a
theorem opQ_congr {v w : Int → Rat} {xs : List R3} {t : Tm} {i : Int} (ht : termOk t i = true) (h : ∀ k ∈ kids t, v k = w k) : opQ v xs t = opQ w xs t := by
 unfold opQ
 rcases term_cases ht with h1 | ⟨h1, _⟩ | ⟨h1, _⟩ | ⟨h1, _⟩ | ⟨h1, _⟩
 ·simp only [h1, if_true]
 ·simp [h1]
 ·rw [kids_2 h1] at h
  rw [h t.a (by simp), h t.b (by simp)]
  repeat' split
  all_goals first | rfl | omega
 ·rw [kids_1 (.inl h1)] at h
  rw [h t.a (by simp)]
  simp [h1]
 ·rw [kids_1 (.inr h1)] at h
  rw [h t.a (by simp)]
  simp [h1]
theorem dopQ_congr {v w d d1 : Int → Rat} {s : Int} {t : Tm} {i : Int} (ht : termOk t i = true) (h : ∀ k ∈ kids t, v k = w k ∧ d k = d1 k) : dopQ v d s t = dopQ w d1 s t := by
 unfold dopQ
 rcases term_cases ht with h1 | ⟨h1, _⟩ | ⟨h1, _⟩ | ⟨h1, _⟩ | ⟨h1, _⟩
 ·simp only [h1, if_true]
 ·simp [h1]
 ·rw [kids_2 h1] at h
  obtain ⟨e1, e2⟩ := h t.a (by simp)
  obtain ⟨e3, e4⟩ := h t.b (by simp)
  rw [e1, e2, e3, e4]
  repeat' split
  all_goals first | rfl | omega
 ·rw [kids_1 (.inl h1)] at h
  rw [(h t.a (by simp)).2]
  simp [h1]
 ·rw [kids_1 (.inr h1)] at h
  rw [(h t.a (by simp)).1, (h t.a (by simp)).2]
  simp [h1]
theorem eopQ_congr {v w d d1 d' d2 e e1 : Int → Rat} {t : Tm} {i : Int} (ht : termOk t i = true) (h : ∀ k ∈ kids t, v k = w k ∧ d k = d1 k ∧ d' k = d2 k ∧ e k = e1 k) : eopQ v d d' e t = eopQ w d1 d2 e1 t := by
 unfold eopQ
 rcases term_cases ht with h1 | ⟨h1, _⟩ | ⟨h1, _⟩ | ⟨h1, _⟩ | ⟨h1, _⟩
 ·simp only [h1, if_true]
 ·simp [h1]
 ·rw [kids_2 h1] at h
  obtain ⟨e1, e2, e3, e4⟩ := h t.a (by simp)
  obtain ⟨e5, e6, e7, e8⟩ := h t.b (by simp)
  rw [e1, e2, e3, e4, e5, e6, e7, e8]
  repeat' split
  all_goals first | rfl | omega
 ·rw [kids_1 (.inl h1)] at h
  rw [(h t.a (by simp)).2.2.2]
  simp [h1]
 ·rw [kids_1 (.inr h1)] at h
  obtain ⟨e1, e2, e3, e4⟩ := h t.a (by simp)
  rw [e1, e2, e3, e4]
  simp [h1]
def fV (xs : List R3) (v : List Rat) (t : Tm) : Rat := opQ (atA 0 v) xs t
def fD (xs : List R3) (s : Int) (v : List (Rat × Rat)) (t : Tm) : Rat × Rat := (opQ (fun i => (atA (0, 0) v i).1) xs t, dopQ (fun i => (atA (0, 0) v i).1) (fun i => (atA (0, 0) v i).2) s t)
abbrev Q4 : Type := Rat × Rat × Rat × Rat
def z4 : Q4 := (0, 0, 0, 0)
def fE (xs : List R3) (s r : Int) (v : List Q4) (t : Tm) : Q4 :=
 (opQ (fun i => (atA z4 v i).1) xs t, dopQ (fun i => (atA z4 v i).1) (fun i => (atA z4 v i).2.1) s t, dopQ (fun i => (atA z4 v i).1) (fun i => (atA z4 v i).2.2.1) r t,
  eopQ (fun i => (atA z4 v i).1) (fun i => (atA z4 v i).2.1) (fun i => (atA z4 v i).2.2.1) (fun i => (atA z4 v i).2.2.2) t)
def vQ (xs : List R3) (c : List Tm) (i : Int) : Rat := atA 0 (foldA (fV xs) [] c) i
def dQ (xs : List R3) (s : Int) (c : List Tm) (i : Int) : Rat := (atA (0, 0) (foldA (fD xs s) [] c) i).2
def eQ (xs : List R3) (s r : Int) (c : List Tm) (i : Int) : Rat := (atA z4 (foldA (fE xs s r) [] c) i).2.2.2
theorem fV_kidly (xs : List R3) : Kidly 0 (fV xs) := ⟨fun v w t i ht h => opQ_congr ht h⟩
theorem fD_kidly (xs : List R3) (s : Int) : Kidly (0, 0) (fD xs s) := ⟨fun v w t i ht h => by
 unfold fD
 rw [opQ_congr (w := fun i => (atA (0, 0) w i).1) ht (fun k hk => by rw [h k hk]), dopQ_congr (w := fun i => (atA (0, 0) w i).1) (d1 := fun i => (atA (0, 0) w i).2) ht (fun k hk => by rw [h k hk]; exact ⟨rfl, rfl⟩)]⟩
theorem fE_kidly (xs : List R3) (s r : Int) : Kidly z4 (fE xs s r) := ⟨fun v w t i ht h => by
 have e1 := opQ_congr (v := fun i => (atA z4 v i).1) (w := fun i => (atA z4 w i).1) (xs := xs) ht fun k hk => by rw [h k hk]
 have e2 := dopQ_congr (v := fun i => (atA z4 v i).1) (w := fun i => (atA z4 w i).1) (d := fun i => (atA z4 v i).2.1) (d1 := fun i => (atA z4 w i).2.1) (s := s) ht fun k hk => by rw [h k hk]; exact ⟨rfl, rfl⟩
 have e3 := dopQ_congr (v := fun i => (atA z4 v i).1) (w := fun i => (atA z4 w i).1) (d := fun i => (atA z4 v i).2.2.1) (d1 := fun i => (atA z4 w i).2.2.1) (s := r) ht fun k hk => by rw [h k hk]; exact ⟨rfl, rfl⟩
 have e4 := eopQ_congr (v := fun i => (atA z4 v i).1) (w := fun i => (atA z4 w i).1) (d := fun i => (atA z4 v i).2.1) (d1 := fun i => (atA z4 w i).2.1) (d' := fun i => (atA z4 v i).2.2.1) (d2 := fun i => (atA z4 w i).2.2.1) (e := fun i => (atA z4 v i).2.2.2) (e1 := fun i => (atA z4 w i).2.2.2) ht fun k hk => by rw [h k hk]; exact ⟨rfl, rfl, rfl, rfl⟩
 unfold fE
 rw [e1, e2, e3, e4]⟩
theorem vQ_D (xs : List R3) (s : Int) (c : List Tm) (i : Int) : (atA (0, 0) (foldA (fD xs s) [] c) i).1 = vQ xs c i := by
 rw [atA_map Prod.fst, foldA_map Prod.fst (f' := fV xs)]
 ·rfl
 ·intro v t
  show opQ (fun i => (atA (0, 0) v i).1) xs t = opQ (atA 0 (v.map Prod.fst)) xs t
  congr 1
  funext i
  exact atA_map Prod.fst (0, 0) v i
def g13 (x : Q4) : Rat × Rat := (x.1, x.2.2.1)
def g12 (x : Q4) : Rat × Rat := (x.1, x.2.1)
theorem D_E13 (xs : List R3) (s r : Int) (c : List Tm) (i : Int) : g13 (atA z4 (foldA (fE xs s r) [] c) i) = atA (0, 0) (foldA (fD xs r) [] c) i := by
 rw [atA_map g13, foldA_map g13 (f' := fD xs r)]
 ·rfl
 ·intro v t
  have e := fun i => atA_map g13 z4 v i
  have e1 : (fun i => (atA z4 v i).1) = fun i => (atA (0, 0) (v.map g13) i).1 := funext fun i => congrArg Prod.fst (e i)
  have e2 : (fun i => (atA z4 v i).2.2.1) = fun i => (atA (0, 0) (v.map g13) i).2 := funext fun i => congrArg Prod.snd (e i)
  show (opQ (fun i => (atA z4 v i).1) xs t, dopQ (fun i => (atA z4 v i).1) (fun i => (atA z4 v i).2.2.1) r t) = _
  rw [e1, e2]
  rfl
theorem D_E12 (xs : List R3) (s r : Int) (c : List Tm) (i : Int) : g12 (atA z4 (foldA (fE xs s r) [] c) i) = atA (0, 0) (foldA (fD xs s) [] c) i := by
 rw [atA_map g12, foldA_map g12 (f' := fD xs s)]
 ·rfl
 ·intro v t
  have e := fun i => atA_map g12 z4 v i
  have e1 : (fun i => (atA z4 v i).1) = fun i => (atA (0, 0) (v.map g12) i).1 := funext fun i => congrArg Prod.fst (e i)
  have e2 : (fun i => (atA z4 v i).2.1) = fun i => (atA (0, 0) (v.map g12) i).2 := funext fun i => congrArg Prod.snd (e i)
  show (opQ (fun i => (atA z4 v i).1) xs t, dopQ (fun i => (atA z4 v i).1) (fun i => (atA z4 v i).2.1) s t) = _
  rw [e1, e2]
  rfl
theorem eopQ_swap (v d d' e : Int → Rat) (t : Tm) : eopQ v d d' e t = eopQ v d' d e t := by
 unfold eopQ quoE
 repeat' split
 all_goals grind
def gsw (x : Q4) : Q4 := (x.1, x.2.2.1, x.2.1, x.2.2.2)
theorem E_swap (xs : List R3) (s r : Int) (c : List Tm) (i : Int) : eQ xs s r c i = eQ xs r s c i := by
 have key : gsw (atA z4 (foldA (fE xs s r) [] c) i) = atA z4 (foldA (fE xs r s) [] c) i := by
  rw [atA_map gsw, foldA_map gsw (f' := fE xs r s)]
  ·rfl
  ·intro v t
   have e := fun i => atA_map gsw z4 v i
   have e1 : (fun i => (atA z4 (v.map gsw) i).1) = fun i => (atA z4 v i).1 := funext fun i => (congrArg Prod.fst (e i)).symm
   have e2 : (fun i => (atA z4 (v.map gsw) i).2.1) = fun i => (atA z4 v i).2.2.1 := funext fun i => (congrArg (fun x : Q4 => x.2.1) (e i)).symm
   have e3 : (fun i => (atA z4 (v.map gsw) i).2.2.1) = fun i => (atA z4 v i).2.1 := funext fun i => (congrArg (fun x : Q4 => x.2.2.1) (e i)).symm
   have e4 : (fun i => (atA z4 (v.map gsw) i).2.2.2) = fun i => (atA z4 v i).2.2.2 := funext fun i => (congrArg (fun x : Q4 => x.2.2.2) (e i)).symm
   unfold fE gsw at *
   rw [e1, e2, e3, e4]
   dsimp only
   rw [eopQ_swap]
 unfold eQ
 rw [← key]
 rfl
theorem vQ_at {xs : List R3} {c : List Tm} {j : Nat} {t : Tm} (ht : c[j]? = some t) (hok : termOk t j = true) : vQ xs c j = opQ (vQ xs c) xs t := foldA_at (fV_kidly xs) ht hok
theorem dQ_at {xs : List R3} {s : Int} {c : List Tm} {j : Nat} {t : Tm} (ht : c[j]? = some t) (hok : termOk t j = true) : dQ xs s c j = dopQ (vQ xs c) (dQ xs s c) s t := by
 have := congrArg Prod.snd (foldA_at (fD_kidly xs s) ht hok)
 have e : (fun i => (atA (0, 0) (foldA (fD xs s) [] c) i).1) = vQ xs c := funext (vQ_D xs s c)
 rw [← e]
 exact this
theorem eQ_at {xs : List R3} {s r : Int} {c : List Tm} {j : Nat} {t : Tm} (ht : c[j]? = some t) (hok : termOk t j = true) : eQ xs s r c j = eopQ (vQ xs c) (dQ xs s c) (dQ xs r c) (eQ xs s r c) t := by
 have := congrArg (fun x : Q4 => x.2.2.2) (foldA_at (fE_kidly xs s r) ht hok)
 have e1 : (fun i => (atA z4 (foldA (fE xs s r) [] c) i).1) = vQ xs c := funext fun i => (congrArg Prod.fst (D_E12 xs s r c i)).trans (vQ_D xs s c i)
 have e2 : (fun i => (atA z4 (foldA (fE xs s r) [] c) i).2.1) = dQ xs s c := funext fun i => congrArg Prod.snd (D_E12 xs s r c i)
 have e3 : (fun i => (atA z4 (foldA (fE xs s r) [] c) i).2.2.1) = dQ xs r c := funext fun i => congrArg Prod.snd (D_E13 xs s r c i)
 rw [← e1, ← e2, ← e3]
 exact this
structure Sem (xs : List R3) (s : Int) (c : List Tm) (k : Int) (p q : Rat) : Prop where
 h0 : 0 ≤ k
 h1 : k < cnt c
 v : vQ xs c k = p
 d : dQ xs s c k = q
variable {xs : List R3} {s : Int} {c : List Tm}
theorem Sem.app {k : Int} {p q : Rat} (h : Sem xs s c k p q) (e : List Tm) : Sem xs s (c ++ e) k p q :=
 ⟨h.h0, by have := h.h1; unfold cnt at *; rw [List.length_append]; omega, (foldA_old _ h.h0 h.h1).trans h.v, (congrArg Prod.snd (foldA_old _ h.h0 h.h1)).trans h.d⟩
theorem Sem.to {k : Int} {p q p' q' : Rat} (h : Sem xs s c k p q) (e1 : p = p') (e2 : q = q') : Sem xs s c k p' q' := e1 ▸ e2 ▸ h
theorem Sem.put (t : Tm) : Sem xs s (c ++ [t]) (cnt c) (opQ (vQ xs c) xs t) (dopQ (vQ xs c) (dQ xs s c) s t) :=
 ⟨cnt0 c, by unfold cnt; simp; omega, foldA_new _ rfl, (congrArg Prod.snd (foldA_new (fD xs s) rfl)).trans (by
  have e : (fun i => (atA (0, 0) (foldA (fD xs s) [] c) i).1) = vQ xs c := funext (vQ_D xs s c)
  rw [← e]
  rfl)⟩
theorem Sem.add {a b : Int} {p q p' q' : Rat} (h : Sem xs s c a p q) (h' : Sem xs s c b p' q') : Sem xs s (c ++ [mkT 3 a b 0]) (cnt c) (p + p') (q + q') := by
 rw [← h.v, ← h.d, ← h'.v, ← h'.d]; exact Sem.put _
theorem Sem.sub {a b : Int} {p q p' q' : Rat} (h : Sem xs s c a p q) (h' : Sem xs s c b p' q') : Sem xs s (c ++ [mkT 4 a b 0]) (cnt c) (p - p') (q - q') := by
 rw [← h.v, ← h.d, ← h'.v, ← h'.d]; exact Sem.put _
theorem Sem.mul {a b : Int} {p q p' q' : Rat} (h : Sem xs s c a p q) (h' : Sem xs s c b p' q') : Sem xs s (c ++ [mkT 5 a b 0]) (cnt c) (p * p') (q * p' + p * q') := by
 rw [← h.v, ← h.d, ← h'.v, ← h'.d]; exact Sem.put _
theorem Sem.div {a b : Int} {p q p' q' : Rat} (h : Sem xs s c a p q) (h' : Sem xs s c b p' q') : Sem xs s (c ++ [mkT 6 a b 0]) (cnt c) (p / p') (quoD p p' q q') := by
 rw [← h.v, ← h.d, ← h'.v, ← h'.d]; exact Sem.put _
theorem Sem.neg {a : Int} {p q : Rat} (h : Sem xs s c a p q) : Sem xs s (c ++ [mkT 7 a 0 0]) (cnt c) (-p) (-q) := by
 rw [← h.v, ← h.d]; exact Sem.put _
theorem Sem.pow {a n : Int} {p q : Rat} (h : Sem xs s c a p q) : Sem xs s (c ++ [mkT 8 a 0 n]) (cnt c) (p ^ n) ((n : Rat) * p ^ (n - 1) * q) := by
 rw [← h.v, ← h.d]; exact Sem.put _
theorem Sem.lit {v : Int} : Sem xs s (c ++ [litT v]) (cnt c) (v : Rat) 0 := (Sem.put (litT v)).to (qOf_ratOf _) rfl
end Go.Proofs.YtjkcmnedolfkjaaGreat.Rd
end
section
set_option linter.unusedVariables false
set_option linter.unusedSimpArgs false
namespace Go.Proofs.YtjkcmnedolfkjaaGreat.Rd
open Go Go.RowKit Go.Proofs.YtjkcmnedolfkjaaGreatW.PrintWords Go.Proofs.YtjkcmnedolfkjaaGreat.PL Go.Proofs.YtjkcmnedolfkjaaGreat.Num

theorem z_two (v : Rat) : v ^ (2 : Int) = v * v := by
 rw [show (2 : Int) = ((2 : Nat) : Int) from rfl, Rat.zpow_natCast, Rat.pow_succ, Rat.pow_succ, Rat.pow_zero, Rat.one_mul]
theorem z_one (v : Rat) : v ^ (1 : Int) = v := by
 rw [show (1 : Int) = ((1 : Nat) : Int) from rfl, Rat.zpow_natCast, Rat.pow_succ, Rat.pow_zero, Rat.one_mul]
theorem quo2 (a b p q : Rat) : (p * b - a * q) / b ^ (2 : Int) = quoD a b p q := by
 rw [z_two]
 unfold quoD
 by_cases h : b = 0
 ·subst h
  simp [Rat.div_def]
 ·grind
theorem quo3 (a b p q p' q' r s : Rat) : quoD (p * b - a * q) (b ^ (2 : Int)) (r * b + p * q' - (p' * q + a * s)) (((2 : Int) : Rat) * b ^ ((2 : Int) - 1) * q') = quoE a b p q p' q' r s := by
 rw [show (2 : Int) - 1 = 1 from rfl, z_one, z_two, show ((2 : Int) : Rat) = 2 from rfl]
 unfold quoE quoD
 by_cases h : b = 0
 ·subst h
  simp [Rat.div_def]
 ·grind
section
variable {xs : List R3} {r : Int} {l : List Bool} {d : List Int} {c : List Tm} {t : Tm} {bd : Bool} {va wa pa qa vb wb pb qb : Rat}
structure Kid (xs : List R3) (r : Int) (c : List Tm) (l : List Bool) (d : List Int) (x : Int) (v w p q : Rat) : Prop where
 o : Sem xs r c x v w
 y : bAt l x = true → Sem xs r c (dAt d x) p q
 n : ¬ bAt l x = true → p = 0 ∧ q = 0
theorem sum_sem (hk : t.k = 3 ∨ t.k = 4) (hA : Kid xs r c l d t.a va wa pa qa) (hB : Kid xs r c l d t.b vb wb pb qb) (hab : bAt l t.a = true ∨ bAt l t.b = true) : Sem xs r (sumS l d c bd t).1 (sumS l d c bd t).2.1 (if t.k = 3 then pa + pb else pa - pb) (if t.k = 3 then qa + qb else qa - qb) := by
 unfold sumS
 split
 ·rename_i a
  split
  ·rename_i e
   rcases hk with h | h
   ·rw [h]
    exact (hA.y a).add (hB.y e)
   ·rw [h]
    exact (hA.y a).sub (hB.y e)
  ·rename_i e
   obtain ⟨e1, e2⟩ := hB.n e
   refine (hA.y a).to ?_ ?_ <;> (split <;> grind)
 ·rename_i a
  obtain ⟨e1, e2⟩ := hA.n a
  have e := hB.y (hab.resolve_left a)
  split
  ·refine e.neg.to ?_ ?_ <;> (rw [if_neg (by omega)]; grind)
  ·refine e.to ?_ ?_ <;> (rw [if_pos (by omega)]; grind)
theorem product_sem (hA : Kid xs r c l d t.a va wa pa qa) (hB : Kid xs r c l d t.b vb wb pb qb) (hab : bAt l t.a = true ∨ bAt l t.b = true) : Sem xs r (productS l d c bd t).1 (productS l d c bd t).2.1 (pa * vb + va * pb) (qa * vb + pa * wb + (wa * pb + va * qb)) := by
 unfold productS
 dsimp only
 split
 ·rename_i e
  split
  ·rename_i a
   exact (((hA.y a).mul hB.o).app _).add ((hA.o.app _).mul ((hB.y e).app _))
  ·rename_i a
   obtain ⟨e1, e2⟩ := hA.n a
   refine (hA.o.mul (hB.y e)).to ?_ ?_ <;> grind
 ·rename_i e
  obtain ⟨e1, e2⟩ := hB.n e
  have a := hab.resolve_right e
  rw [if_pos a]
  refine ((hA.y a).mul hB.o).to ?_ ?_ <;> grind
theorem quotient_sem (hA : Kid xs r c l d t.a va wa pa qa) (hB : Kid xs r c l d t.b vb wb pb qb) (hab : bAt l t.a = true ∨ bAt l t.b = true) : Sem xs r (quotientS l d c bd t).1 (quotientS l d c bd t).2.1 (quoD va vb pa pb) (quoE va vb pa pb wa wb qa qb) := by
 unfold quotientS
 dsimp only
 split
 ·rename_i e
  split
  ·rename_i a
   refine ((((((hA.y a).mul hB.o).app _).sub ((hA.o.app _).mul ((hB.y e).app _))).app _).div ((((hB.o.app _).app _).app _).pow (n := 2))).to (quo2 va vb pa pb) (quo3 va vb pa pb wa wb qa qb)
  ·rename_i a
   obtain ⟨e1, e2⟩ := hA.n a
   subst e1 e2
   refine ((((hA.o.mul (hB.y e)).neg).app _).div (((hB.o.app _).app _).pow (n := 2))).to ?_ ?_
   ·rw [← quo2]
    congr 1
    grind
   ·rw [← quo3]
    congr 1 <;> grind
 ·rename_i e
  obtain ⟨e1, e2⟩ := hB.n e
  have a := hab.resolve_right e
  subst e1 e2
  refine ((hA.y a).div hB.o).to ?_ ?_
  ·unfold quoD
   rw [Rat.mul_zero, Rat.sub_eq_add_neg, Rat.neg_zero, Rat.add_zero]
  ·unfold quoE quoD
   congr 1
   grind
theorem raised_sem (hA : Kid xs r c l d t.a va wa pa qa) (a : bAt l t.a = true) : Sem xs r (raisedS d c bd t).1 (raisedS d c bd t).2.1 ((t.n : Rat) * va ^ (t.n - 1) * pa) ((t.n : Rat) * ((t.n - 1 : Int) : Rat) * va ^ (t.n - 1 - 1) * pa * wa + (t.n : Rat) * va ^ (t.n - 1) * qa) := by
 unfold raisedS
 split
 ·rename_i h
  rw [h, show (1 : Int) - 1 = 0 from rfl, Rat.zpow_zero, show ((1 : Int) : Rat) = 1 from rfl, show ((0 : Int) : Rat) = 0 from rfl]
  refine (hA.y a).to ?_ ?_ <;> grind
 ·dsimp only
  refine ((((Sem.lit (v := t.n)).app _).mul ((hA.o.app _).pow (n := t.n - 1))).mul ((((hA.y a).app _).app _).app _)).to rfl ?_
  grind
theorem term_sem {s i : Int} (V W P Q : Int → Rat) (hok : termOk t i = true) (hK : ∀ x ∈ kids t, Kid xs r c l d x (V x) (W x) (P x) (Q x))
  (hl : (t.k = 2 ∧ t.n = s) ∨ ((t.k = 7 ∨ (t.k = 8 ∧ t.n ≠ 0)) ∧ bAt l t.a = true) ∨ ((t.k = 3 ∨ t.k = 4 ∨ t.k = 5 ∨ t.k = 6) ∧ (bAt l t.a = true ∨ bAt l t.b = true))) :
  Sem xs r (termS l d c bd t).1 (termS l d c bd t).2.1 (dopQ V P s t) (eopQ V P W Q t) := by
 unfold termS dopQ eopQ
 rcases hl with ⟨h, h2⟩ | ⟨h, h2⟩ | ⟨h, h2⟩
 ·rw [if_pos h, if_neg (by omega), if_pos h, if_pos h2, if_neg (by omega), if_pos h]
  exact Sem.lit
 ·rcases h with h | ⟨h, h3⟩
  ·rw [kids_1 (.inl h)] at hK
   have hA := hK t.a (by simp)
   simp only [h]
   exact (hA.y h2).neg
  ·rw [kids_1 (.inr h)] at hK
   have hA := hK t.a (by simp)
   simp only [h]
   exact raised_sem hA h2
 ·rw [kids_2 h] at hK
  have hA := hK t.a (by simp)
  have hB := hK t.b (by simp)
  rcases h with h | h | h | h
  ·have := sum_sem (bd := bd) (.inl h) hA hB h2
   rw [if_pos h, if_pos h] at this
   simp only [h]
   exact this
  ·have := sum_sem (bd := bd) (.inr h) hA hB h2
   rw [if_neg (by omega), if_neg (by omega)] at this
   simp only [h]
   exact this
  ·simp only [h]
   exact product_sem hA hB h2
  ·simp only [h]
   exact quotient_sem hA hB h2
theorem term_ext : ∃ e, (termS l d c bd t).1 = c ++ e := by
 unfold termS productS quotientS raisedS sumS
 dsimp only
 repeat' split
 all_goals (first | exact ⟨_, rfl⟩ | exact ⟨[], (List.append_nil _).symm⟩ | (simp only [List.append_assoc]; exact ⟨_, rfl⟩))
end
theorem lean_at {c : List Tm} {s : Int} {q : Nat} {t : Tm} (ht : c[q]? = some t) (hok : termOk t q = true) : (leanN c s c.length)[q]? = some (if t.k = 1 then false else lean1 (leanN c s c.length) s t) := by
 have hlt := (List.getElem?_eq_some_iff.1 ht).1
 by_cases h1 : t.k = 1
 ·rw [if_pos h1]
  exact lean_lit ht h1 _
 ·rw [if_neg h1, lean_stay (N := q + 1) (by omega) (by omega), lean_self ht h1]
  have hst : ∀ x : Int, 0 ≤ x → x < q → bAt (leanN c s q) x = bAt (leanN c s c.length) x := fun x h0 h2 => by
   unfold bAt
   rw [lean_stay (N := q) (M := c.length) (by omega) (by omega)]
  unfold lean1
  rcases term_cases hok with h | ⟨h, h2⟩ | ⟨h, h2, h3⟩ | ⟨h, h2⟩ | ⟨h, h2, h3⟩
  ·exact absurd h h1
  ·rw [if_pos h, if_pos h]
  ·rw [if_neg (by omega), if_neg (by omega), if_neg (by omega), if_neg (by omega), if_neg (by omega), if_neg (by omega), hst _ h2.1 h2.2, hst _ h3.1 h3.2]
  ·rw [if_neg (by omega), if_pos h, if_neg (by omega), if_pos h, hst _ h2.1 h2.2]
  ·rw [if_neg (by omega), if_neg (by omega), if_pos h, if_neg (by omega), if_neg (by omega), if_pos h, hst _ h2.1 h2.2]
theorem no_lean {c : List Tm} {s : Int} (hg : goodC c = true) (xs : List R3) (r : Int) : ∀ (N : Nat) (j : Int), 0 ≤ j → j < N → j < cnt c → ¬ bAt (leanN c s c.length) j = true → dQ xs s c j = 0 ∧ eQ xs s r c j = 0
 | 0, j, h0, h1, _, _ => by omega
 | N + 1, j, h0, h1, h2, hb => by
  have ih := no_lean (s := s) hg xs r N
  have hlt : j.toNat < c.length := by unfold cnt at h2; omega
  obtain ⟨t, ht⟩ : ∃ t, c[j.toNat]? = some t := ⟨_, List.getElem?_eq_getElem hlt⟩
  have hok := goodC_iff.1 hg _ t ht
  have hL := lean_at (s := s) ht hok
  have e1 := dQ_at (xs := xs) (s := s) ht hok
  have e2 := eQ_at (xs := xs) (s := s) (r := r) ht hok
  have hj : ((j.toNat : Nat) : Int) = j := by omega
  rw [hj] at hok e1 e2
  rw [e1, e2]
  unfold bAt at hb
  rw [hL] at hb
  have hb : (if t.k = 1 then false else lean1 (leanN c s c.length) s t) = false := by simpa using hb
  unfold dopQ eopQ
  have hk : ∀ x : Int, 0 ≤ x → x < j → bAt (leanN c s c.length) x = false → dQ xs s c x = 0 ∧ eQ xs s r c x = 0 := fun x h3 h4 h5 => ih x h3 (by omega) (by omega) (by rw [h5]; simp)
  unfold lean1 at hb
  rcases term_cases hok with h | ⟨h, h3⟩ | ⟨h, h3, h4⟩ | ⟨h, h3⟩ | ⟨h, h3, h4⟩
  ·simp [h]
  ·rw [if_neg (by omega), if_pos h] at hb
   have hb := of_decide_eq_false hb
   simp [h, hb]
  ·rw [if_neg (by omega), if_neg (by omega), if_neg (by omega), if_neg (by omega), Bool.or_eq_false_iff] at hb
   obtain ⟨a1, a2⟩ := hk t.a h3.1 h3.2 hb.1
   obtain ⟨b1, b2⟩ := hk t.b h4.1 h4.2 hb.2
   rw [a1, a2, b1, b2]
   unfold quoE quoD
   rcases h with h | h | h | h
   all_goals (simp only [h]; constructor <;> simp [Rat.div_def] <;> grind)
  ·rw [if_neg (by omega), if_neg (by omega), if_pos h] at hb
   obtain ⟨a1, a2⟩ := hk t.a h3.1 h3.2 hb
   rw [a1, a2]
   simp [h]
  ·rw [if_neg (by omega), if_neg (by omega), if_neg (by omega), if_pos h, Bool.and_eq_false_iff] at hb
   rcases hb with hb | hb
   ·have hn : t.n = 0 := by simpa using hb
    simp [h, hn]
    exact Rat.add_zero 0
   ·obtain ⟨a1, a2⟩ := hk t.a h3.1 h3.2 hb
    rw [a1, a2]
    simp [h]
    exact Rat.add_zero 0
theorem der_sem {c : List Tm} {i s : Int} (hg : goodC c = true) (hi0 : 0 ≤ i) (hi1 : i < cnt c) (xs : List R3) (r : Int) : ∀ q : Nat, (q : Int) ≤ i + 1 → (derN c (leanN c s c.length) (needs c i.toNat) (i.toNat + 1) q).2.2 = false →
  (∃ e, (derN c (leanN c s c.length) (needs c i.toNat) (i.toNat + 1) q).1 = c.take (i.toNat + 1) ++ e) ∧
  ∀ j : Int, 0 ≤ j → j < q → (needs c i.toNat)[j.toNat]? = some true → (leanN c s c.length)[j.toNat]? = some true → Sem xs r (derN c (leanN c s c.length) (needs c i.toNat) (i.toNat + 1) q).1 (dAt (derN c (leanN c s c.length) (needs c i.toNat) (i.toNat + 1) q).2.1 j) (dQ xs s c j) (eQ xs s r c j)
 | 0, _, _ => by
  unfold derN
  exact ⟨⟨[], (List.append_nil _).symm⟩, fun j h0 h1 => absurd h1 (by omega)⟩
 | q + 1, hq, hb => by
  have hlt : q < c.length := by unfold cnt at hi1; omega
  obtain ⟨t, ht⟩ : ∃ t, c[q]? = some t := ⟨_, List.getElem?_eq_getElem hlt⟩
  have hlen := der_len c (leanN c s c.length) (needs c i.toNat) (i.toNat + 1) q
  have hih := der_sem hg hi0 hi1 (s := s) xs r q (by omega)
  unfold derN at hb ⊢
  by_cases hc : (needs c i.toNat)[q]? = some true ∧ (leanN c s c.length)[q]? = some true
  ·rw [if_pos hc, ht] at hb ⊢
   dsimp only at hb ⊢
   generalize derN c (leanN c s c.length) (needs c i.toNat) (i.toNat + 1) q = p at *
   obtain ⟨cc, dd, bd⟩ := p
   dsimp only at *
   cases bd
   case true => rw [term_bad] at hb; cases hb
   obtain ⟨⟨e, g1⟩, g2⟩ := hih rfl
   have hok := goodC_iff.1 hg q t ht
   have hLq := lean_at (s := s) ht hok
   rw [hc.2] at hLq
   injection hLq with hLq
   have hlk := lean_kids ht hok hc.2
   have htk : (c.take (i.toNat + 1)) ++ c.drop (i.toNat + 1) = c := List.take_append_drop _ _
   have hcl : cnt (c.take (i.toNat + 1)) = i + 1 := by
    unfold cnt at *
    rw [List.length_take]
    omega
   have hold : ∀ x : Int, 0 ≤ x → x ≤ i → Sem xs r cc x (vQ xs c x) (dQ xs r c x) := fun x h0 h1 => by
    have : Sem xs r (c.take (i.toNat + 1)) x (vQ xs (c.take (i.toNat + 1)) x) (dQ xs r (c.take (i.toNat + 1)) x) := ⟨h0, by omega, rfl, rfl⟩
    rw [g1]
    refine (this.app e).to ?_ ?_
    ·have := foldA_old (z := (0 : Rat)) (fV xs) (c := c.take (i.toNat + 1)) (e := c.drop (i.toNat + 1)) h0 (by omega)
     rw [htk] at this
     exact this.symm
    ·have := foldA_old (z := ((0, 0) : Rat × Rat)) (fD xs r) (c := c.take (i.toNat + 1)) (e := c.drop (i.toNat + 1)) h0 (by omega)
     rw [htk] at this
     exact (congrArg Prod.snd this).symm
   have hS := term_sem (xs := xs) (r := r) (l := leanN c s c.length) (d := dd) (c := cc) (t := t) (bd := false) (s := s) (i := q) (vQ xs c) (dQ xs r c) (dQ xs s c) (eQ xs s r c) hok (fun x hx => by
    have hx' := kids_in hok x hx
    refine ⟨hold x hx'.1 (by omega), fun hb => g2 x hx'.1 hx'.2 (needs_kid (ahead_of hg) ht hx hc.1) ?_, fun hb => no_lean hg xs r q x hx'.1 hx'.2 (by unfold cnt; omega) hb⟩
    unfold bAt at hb
    cases e : (leanN c s c.length)[x.toNat]? with
    | none => rw [e] at hb; cases hb
    | some b => rw [e] at hb; have : b = true := hb; rw [this]) (by
    rcases hlk with h | h | h
    ·rw [if_neg (by omega)] at hLq
     unfold lean1 at hLq
     rw [if_pos h] at hLq
     exact .inl ⟨h, of_decide_eq_true hLq.symm⟩
    ·exact .inr (.inl h)
    ·exact .inr (.inr h))
   obtain ⟨e2, he2⟩ := term_ext (l := leanN c s c.length) (d := dd) (c := cc) (t := t) (bd := false)
   have hl : q < dd.length := by unfold cnt at hlen; omega
   refine ⟨⟨e ++ e2, by rw [he2, g1, List.append_assoc]⟩, fun j j0 j1 n1 l1 => ?_⟩
   rw [dAt_set j0 hl]
   split
   ·rename_i hj
    rw [hj, dQ_at ht hok, eQ_at ht hok]
    exact hS
   ·rename_i hne
    rw [he2]
    exact (g2 j j0 (by omega) n1 l1).app e2
  ·rw [if_neg hc] at hb ⊢
   obtain ⟨g1, g2⟩ := hih hb
   refine ⟨g1, fun j j0 j1 n1 l1 => ?_⟩
   by_cases e : j = q
   ·rw [e] at n1 l1
    exact absurd ⟨n1, l1⟩ hc
   ·exact g2 j j0 (by omega) n1 l1
structure Der (c : List Tm) (i s : Int) (D : List Tm) (k : Int) : Prop where
 may : mayC c i = true
 s0 : 0 ≤ s
 good : goodC D = true
 pre : ∃ e, D = c.take (i.toNat + 1) ++ e
 lo : i < k
 hi : k < cnt D
 len : cnt D ≤ cnt c + 5 * (i + 1) + 1
 sem : ∀ xs r, Sem xs r D k (dQ xs s c i) (eQ xs s r c i)
theorem der_of {c D : List Tm} {i s k : Int} (h : derS c i s = (D, k, 0)) : Der c i s D k := by
 unfold derS at h
 split at h
 ·rename_i hm
  obtain ⟨hm, hs⟩ := hm
  have hm' := hm
  unfold mayC at hm'
  simp only [Bool.and_eq_true, decide_eq_true_eq] at hm'
  obtain ⟨⟨h0, h1⟩, hg⟩ := hm'
  have hcn := der_cnt c (leanN c s c.length) (needs c i.toNat) (i.toNat + 1) (i.toNat + 1)
  have hll := leanN_len c s c.length
  have hb' : (leanN c s c.length)[i.toNat]? = some (bAt (leanN c s c.length) i) := by
   have : i.toNat < (leanN c s c.length).length := by unfold cnt at *; omega
   unfold bAt
   rw [List.getElem?_eq_getElem this]
   rfl
  split at h
  ·rename_i hb
   split at h
   ·cases h
   ·rename_i hbad
    have hbad : (derAll c i s).2.2 = false := by
     cases e : (derAll c i s).2.2
     ·rfl
     ·exact absurd (.inl e) hbad
    injection h with hD h
    injection h with hk h
    subst hD hk
    unfold derAll at hbad ⊢
    obtain ⟨g1, g2, g3⟩ := der_inv (s := s) hg h0 h1 (i.toNat + 1) (by omega) hbad
    have g4 := g3 i h0 (by omega) (needs_root h0 h1) (by rw [hb', hb])
    have hsem := fun xs r => der_sem (s := s) hg h0 h1 xs r (i.toNat + 1) (by omega) hbad
    exact ⟨hm, hs, g1, (hsem [] 0).1, by omega, g4.2, by push_cast at hcn; omega, fun xs r => (hsem xs r).2 i h0 (by omega) (needs_root h0 h1) (by rw [hb', hb])⟩
  ·rename_i hb
   split at h
   ·cases h
   ·rename_i hbad
    have hbad : (derAll c i s).2.2 = false := by
     cases e : (derAll c i s).2.2
     ·rfl
     ·exact absurd (.inl e) hbad
    injection h with hD h
    injection h with hk h
    subst hD hk
    unfold derAll at hbad ⊢
    obtain ⟨g1, g2, g3⟩ := der_inv (s := s) hg h0 h1 (i.toNat + 1) (by omega) hbad
    have hsem := fun xs r => der_sem (s := s) hg h0 h1 xs r (i.toNat + 1) (by omega) hbad
    obtain ⟨e, he⟩ := (hsem [] 0).1
    refine ⟨hm, hs, good_app g1 (ok_lit (fits_int (by omega))), ⟨e ++ [litT 0], by rw [he, List.append_assoc]⟩, by omega, by rw [cnt_app]; omega, by rw [cnt_app]; push_cast at hcn; omega, fun xs r => ?_⟩
    obtain ⟨n1, n2⟩ := no_lean (s := s) hg xs r c.length i h0 (by unfold cnt at h1; omega) h1 hb
    rw [n1, n2]
    exact Sem.lit
 ·cases h
end Go.Proofs.YtjkcmnedolfkjaaGreat.Rd
end
section
set_option linter.unusedVariables false
set_option linter.unusedSimpArgs false
namespace Go.Proofs.YtjkcmnedolfkjaaGreat.Rd
open Go Go.RowKit Go.Proofs.YtjkcmnedolfkjaaGreatW.PrintWords Go.Proofs.YtjkcmnedolfkjaaGreat.PL Go.Proofs.YtjkcmnedolfkjaaGreat.Num

theorem lim_is {q : Rat} {a : R3} (h : lim q = to4 a) : a = ratOf q ∧ fits q = true := by
 unfold lim at h
 split at h
 ·rename_i hf
  exact ⟨(congrArg to3 h).symm, hf⟩
 ·exact absurd (congrArg (fun r : R4 => r.2.2.2) h) (by show ¬ (2 : Int) = 0; decide)
theorem bad_no {e : Int} {a : R3} (he : e ≠ 0) (h : bad e = to4 a) : False := he (congrArg (fun r : R4 => r.2.2.2) h)
theorem good_q {a : R3} (h : goodB a = true) : a = ratOf (qOf a) ∧ fits (qOf a) = true := by
 obtain ⟨p, hp, rfl⟩ := good_iff.1 h
 rw [qOf_ratOf]
 exact ⟨rfl, hp⟩
theorem neg_ratOf {p : Rat} (h : fits p = true) : negS (ratOf p) = ratOf (-p) := by unfold negS; rw [if_pos (good_ratOf h), qOf_ratOf]
theorem lit_good {t : Tm} {i : Int} (ht : termOk t i = true) (h1 : t.k = 1) : goodB t.q = true := by
 unfold termOk at ht
 rw [if_pos h1, Bool.and_eq_true] at ht
 exact ht.2
theorem ev_num {c : List Tm} {xs vs : List R3} {nd : List Bool} {q : Nat} (hs : Set1 c xs nd) (h : evN c xs nd q = (vs, 0)) : ∀ (N j : Nat) (t : Tm), j < N → j < q → nd[j]? = some true → c[j]? = some t → at3 vs j = ratOf (vQ xs c j) ∧ fits (vQ xs c j) = true
 | 0, j, t, hj, _, _, _ => absurd hj (by omega)
 | N + 1, j, t, _, hjq, hb, ht => by
  have ih := ev_num hs h N
  obtain ⟨f1, f2⟩ := fix_of hs q vs h j t hjq hb ht
  have hok := hs.ok j t ht
  rw [vQ_at ht hok]
  have kid : ∀ k ∈ kids t, at3 vs k = ratOf (vQ xs c k) ∧ fits (vQ xs c k) = true := fun k hk => by
   have h1 := kid_lt hs ht hk
   have h2 := hs.kid j t hb ht k hk
   have h3 := (List.getElem?_eq_some_iff.1 ht).1
   obtain ⟨tk, h4⟩ : ∃ tk, c[k.toNat]? = some tk := ⟨_, List.getElem?_eq_getElem (by omega)⟩
   have := ih k.toNat tk (by omega) (by omega) h2 h4
   rwa [show ((k.toNat : Nat) : Int) = k by omega] at this
  have hx := hs.x j t hb ht
  have to_eq : ∀ {a b : R3}, to4 a = to4 b → b = a := fun h => (congrArg to3 h).symm
  unfold evT at f1
  unfold opQ
  rcases term_cases hok with h1 | ⟨h1, _⟩ | ⟨h1, _⟩ | ⟨h1, _⟩ | ⟨h1, _, h2, h3⟩
  ·have g := lit_good hok h1
   rw [if_pos h1, own_good g] at f1
   rw [if_pos h1, to_eq f1]
   exact good_q g
  ·have g := hx h1
   rw [if_neg (by omega), if_pos h1, own_good g] at f1
   rw [if_neg (by omega), if_pos h1, to_eq f1]
   exact good_q g
  ·rw [kids_2 h1] at kid
   obtain ⟨ka, fa⟩ := kid t.a (by simp)
   obtain ⟨kb, fb⟩ := kid t.b (by simp)
   rw [ka, kb] at f1
   have gab : (goodB (ratOf (vQ xs c t.a)) && goodB (ratOf (vQ xs c t.b))) = true := by rw [good_ratOf fa, good_ratOf fb]; rfl
   rw [if_neg (by omega), if_neg (by omega)] at f1 ⊢
   rcases h1 with h1 | h1 | h1 | h1
   ·rw [if_pos h1] at f1 ⊢
    unfold addS at f1
    rw [if_pos gab, qOf_ratOf, qOf_ratOf] at f1
    exact lim_is f1
   ·rw [if_neg (by omega), if_pos h1] at f1 ⊢
    unfold subS at f1
    rw [if_pos gab, qOf_ratOf, qOf_ratOf] at f1
    exact lim_is f1
   ·rw [if_neg (by omega), if_neg (by omega), if_pos h1] at f1 ⊢
    unfold mulS at f1
    rw [if_pos gab, qOf_ratOf, qOf_ratOf] at f1
    exact lim_is f1
   ·rw [if_neg (by omega), if_neg (by omega), if_neg (by omega), if_pos h1] at f1 ⊢
    unfold divS at f1
    rw [if_pos gab, qOf_ratOf, qOf_ratOf] at f1
    split at f1
    ·exact (bad_no (by decide) f1).elim
    ·exact lim_is f1
  ·rw [kids_1 (.inl h1)] at kid
   obtain ⟨ka, fa⟩ := kid t.a (by simp)
   rw [ka, if_neg (by omega), if_neg (by omega), if_neg (by omega), if_neg (by omega), if_neg (by omega), if_neg (by omega), if_pos h1, neg_ratOf fa] at f1
   rw [if_neg (by omega), if_neg (by omega), if_neg (by omega), if_neg (by omega), if_neg (by omega), if_neg (by omega), if_pos h1, to_eq f1]
   exact ⟨rfl, (fits_neg _).trans fa⟩
  ·rw [kids_1 (.inr h1)] at kid
   obtain ⟨ka, fa⟩ := kid t.a (by simp)
   rw [ka, if_neg (by omega), if_neg (by omega), if_neg (by omega), if_neg (by omega), if_neg (by omega), if_neg (by omega), if_neg (by omega)] at f1
   rw [if_neg (by omega), if_neg (by omega), if_neg (by omega), if_neg (by omega), if_neg (by omega), if_neg (by omega), if_neg (by omega)]
   unfold powS at f1
   rw [if_pos (good_ratOf fa), if_pos ⟨h2, h3⟩, qOf_ratOf] at f1
   split at f1
   ·exact (bad_no (by decide) f1).elim
   ·exact lim_is f1
structure Ok (c : List Tm) (i : Int) (xs : List R3) : Prop where
 made : madeB c i xs = true
 is : ofS c i xs = to4 (ratOf (vQ xs c i))
 num : ∀ (j : Nat) t, (needs c i.toNat)[j]? = some true → c[j]? = some t → fits (vQ xs c j) = true
 no : ∀ (j : Nat) t, (needs c i.toNat)[j]? = some true → c[j]? = some t → ∀ d, byD t d → vQ xs c d ≠ 0
 ev : ∃ vs, evN c xs (needs c i.toNat) (i.toNat + 1) = (vs, 0) ∧ ∀ (j : Nat) t, (needs c i.toNat)[j]? = some true → c[j]? = some t → at3 vs j = ratOf (vQ xs c j)
theorem Ok.fits {c : List Tm} {i : Int} {xs : List R3} (h : Ok c i xs) : fits (vQ xs c i) = true := by
 have hm := h.made
 unfold madeB mayC at hm
 simp only [Bool.and_eq_true, decide_eq_true_eq] at hm
 obtain ⟨⟨⟨⟨h0, h1⟩, hg⟩, hx⟩, hr⟩ := hm
 have hl : i.toNat < c.length := by unfold cnt at h1; omega
 have := h.num i.toNat c[i.toNat] (needs_root h0 h1) (List.getElem?_eq_getElem hl)
 rwa [show ((i.toNat : Nat) : Int) = i by omega] at this
theorem made_parts {c : List Tm} {i : Int} {xs : List R3} (h : madeB c i xs = true) : 0 ≤ i ∧ i < cnt c ∧ goodC c = true := by
 unfold madeB mayC at h
 simp only [Bool.and_eq_true, decide_eq_true_eq] at h
 exact ⟨h.1.1.1.1, h.1.1.1.2, h.1.1.2⟩
theorem of_num {c : List Tm} {i : Int} {xs : List R3} (h : (ofS c i xs).2.2.2 = 0) : Ok c i xs := by
 unfold ofS at h
 split at h
 ·rename_i hm
  split at h
  ·rename_i he
   have hs := set1_of hm
   obtain ⟨h0, h1, hg⟩ := made_parts hm
   obtain ⟨vs, hv⟩ : ∃ vs, evN c xs (needs c i.toNat) (i.toNat + 1) = (vs, 0) := ⟨_, by rw [← he]⟩
   have key : ∀ (j : Nat) t, (needs c i.toNat)[j]? = some true → c[j]? = some t → at3 vs j = ratOf (vQ xs c j) ∧ Num.fits (vQ xs c j) = true := fun j t hb ht => ev_num hs hv (j + 1) j t (by omega) (by have := needs_le (ahead_of hg) hb; omega) hb ht
   have hl : i.toNat < c.length := by unfold cnt at h1; omega
   refine ⟨hm, ?_, fun j t hb ht => (key j t hb ht).2, fun j t hb ht d hd => ?_, ⟨vs, hv, fun j t hb ht => (key j t hb ht).1⟩⟩
   ·have := (key i.toNat c[i.toNat] (needs_root h0 h1) (List.getElem?_eq_getElem hl)).1
    rw [show ((i.toNat : Nat) : Int) = i by omega] at this
    unfold ofS
    rw [if_pos hm, hv, if_pos rfl, this]
   ·have hj := needs_le (ahead_of hg) hb
    have kid : ∀ k ∈ kids t, at3 vs k = ratOf (vQ xs c k) ∧ Num.fits (vQ xs c k) = true := fun k hk => by
     have h1 := kid_lt hs ht hk
     have h2 := hs.kid j t hb ht k hk
     have h3 := (List.getElem?_eq_some_iff.1 ht).1
     obtain ⟨tk, h4⟩ : ∃ tk, c[k.toNat]? = some tk := ⟨_, List.getElem?_eq_getElem (by omega)⟩
     have := key k.toNat tk h2 h4
     rwa [show ((k.toNat : Nat) : Int) = k by omega] at this
    have f := (fix_of hs _ vs hv j t (by omega) hb ht).1
    have hd' := (kid d (byD_kid hd)).1
    rcases evT_kinds (vs := vs) (hs.ok j t ht) (fun k hk => by rw [(kid k hk).1]; exact good_ratOf (kid k hk).2) (hs.x j t hb ht) with h | h | h
    ·have := h.2.2 d hd
     rwa [hd', qOf_ratOf] at this
    ·rw [f] at h
     exact absurd h (by show ¬ (0 : Int) = 2; decide)
    ·rw [f] at h
     exact absurd h.1 (by show ¬ (0 : Int) = 3; decide)
  ·rename_i he
   exact absurd h he
 ·exact absurd h (by show ¬ (1 : Int) = 0; decide)
def atS (c : List Tm) (i s : Int) (xs : List R3) : R3 × Bool := if (derS c i s).2.2 = 0 then (to3 (ofS (derS c i s).1 (derS c i s).2.1 xs), decide ((ofS (derS c i s).1 (derS c i s).2.1 xs).2.2.2 = 0)) else (none3, false)
theorem at_num {c : List Tm} {i s : Int} {xs : List R3} (h : (atS c i s xs).2 = true) : mayC c i = true ∧ (atS c i s xs).1 = ratOf (dQ xs s c i) ∧ fits (dQ xs s c i) = true := by
 unfold atS at h ⊢
 split
 ·rename_i h0
  rw [if_pos h0] at h
  have ho := of_num (of_decide_eq_true h)
  obtain ⟨D, k, e⟩ : ∃ D k, derS c i s = (D, k, 0) := ⟨(derS c i s).1, (derS c i s).2.1, by rw [← h0]⟩
  rw [e] at ho ⊢
  have hd := der_of e
  have hv := (hd.sem xs 0).v
  refine ⟨hd.may, ?_, ?_⟩
  ·show to3 (ofS D k xs) = _
   rw [ho.is, hv]
   rfl
  ·rw [← hv]
   exact ho.fits
 ·rename_i h0
  rw [if_neg h0] at h
  cases h
set_option maxRecDepth 100000
set_option maxHeartbeats 4000000
theorem LR_lit {v : Int} (h : -128 ≤ v ∧ v ≤ 128) : LR (litT v).q := LR_ratOf (fits_int h)
theorem LR_none : LR none3 := ⟨Limbs.nil, Limbs.nil, by decide, by decide⟩
theorem in_app {c e : List Tm} {t : Tm} (h : ∀ u ∈ e, u ∈ c ∨ LR u.q) (ht : LR t.q) : ∀ u ∈ e ++ [t], u ∈ c ∨ LR u.q := fun u hu => by
 rcases List.mem_append.1 hu with hu | hu
 ·exact h u hu
 ·rw [List.mem_singleton.1 hu]
  exact .inr ht
theorem term_LB {l : List Bool} {d : List Int} {c : List Tm} {bad : Bool} {t : Tm} {i : Int} (hok : termOk t i = true) : ∀ u ∈ (termS l d c bad t).1, u ∈ c ∨ LR u.q := by
 have hn : t.k = 8 → -128 ≤ t.n ∧ t.n ≤ 128 := fun h => by
  rcases term_cases hok with g | ⟨g, _⟩ | ⟨g, _⟩ | ⟨g, _⟩ | ⟨_, _, g⟩
  ·omega
  ·omega
  ·omega
  ·omega
  ·exact g
 have h0 := LR_none
 have h1 : LR (litT 1).q := LR_lit (by omega)
 have h2 : t.k = 8 → LR (litT t.n).q := fun h => LR_lit (hn h)
 unfold termS productS quotientS raisedS sumS
 repeat' split
 all_goals
  repeat' (first | exact fun u h => .inl h | exact h0 | exact h1 | exact h2 (by assumption) | refine in_app ?_ ?_)
theorem der_LB {P : R3 → Prop} (hP : ∀ q, LR q → P q) {c : List Tm} {l nd : List Bool} {m : Nat} (hg : goodC c = true) (hq : ∀ t ∈ c, P t.q) : ∀ q, ∀ u ∈ (derN c l nd m q).1, P u.q
 | 0, u, hu => hq u (List.mem_of_mem_take hu)
 | q + 1, u, hu => by
  unfold derN at hu
  split at hu
  ·split at hu
   ·rename_i t ht
    rcases term_LB (goodC_iff.1 hg q t ht) u hu with h | h
    ·exact der_LB hP hg hq q u h
    ·exact hP _ h
   ·exact der_LB hP hg hq q u hu
  ·exact der_LB hP hg hq q u hu
def diffOfR' (us : List U) (u : U) : Prop := ∃ c i s x, (∀ t ∈ c, LB t.q) ∧ cnt c ≤ 1000 ∧ nilEq x (cU c) ∧ us = [x, ui i, ui s] ∧ u = derU (derS c i s)
theorem diffOf_ok' : SoundF Tryz.prog 11 diffOfR' := relax diffOf_ok fun us u ⟨c, i, s, x, h1, h2, h3, h4, h5⟩ => ⟨_, u, ⟨c, i, s, h1, h2, rfl, h5⟩, by rw [h4]; exact ⟨h3, .inl rfl, .inl rfl, trivial⟩, .inl rfl⟩
theorem v1 : (derS quotC 4 1).2 = (9, 0) ∧ cnt (derS quotC 4 1).1 = 10 := by decide +kernel
theorem v2 : (derS quotC 4 2).2.2 = 0 ∧ cnt (derS quotC 4 2).1 = 6 := by decide +kernel
theorem v3 : ofS (derS quotC 4 1).1 9 [ratOf 3, ratOf 2] = to4 (ratOf (-3 / 4)) := by decide +kernel
theorem v4 : ofS (derS quotC 4 2).1 (derS quotC 4 2).2.1 [ratOf 3, ratOf 2] = to4 (ratOf 0) := by decide +kernel
theorem v5 : (derS [] 0 0).2 = (0, 1) := by decide +kernel
theorem v6 : mayC quotC 4 = true ∧ leanN quotC 1 quotC.length = [false, true, true, false, true] := by decide +kernel
theorem quot_good : goodC quotC = true := by decide +kernel
theorem derS_LB {P : R3 → Prop} (hP : ∀ q, LR q → P q) {c : List Tm} {i s : Int} (hg : goodC c = true) (hq : ∀ t ∈ c, P t.q) : ∀ u ∈ (derS c i s).1, P u.q := fun u hu => by
 unfold derS derAll at hu
 split at hu
 ·split at hu
  ·split at hu
   ·cases hu
   ·exact der_LB hP hg hq _ u hu
  ·split at hu
   ·cases hu
   ·rcases List.mem_append.1 hu with hu | hu
    ·exact der_LB hP hg hq _ u hu
    ·rw [List.mem_singleton.1 hu]
     exact hP _ (LR_lit (by omega))
 ·cases hu
def yesR (us : List U) (u : U) : Prop := us = [] ∧ u = ub true
theorem wakes_ok : SoundF Tryz.prog 9 yesR := sound [(26, byR), (33, quotR), (22, ofR'), (11, diffOfR'), (15, leansR), (24, keepR), (14, keepBoolsR)] (orc_cons by_ok (orc_cons quot_ok (orc_cons of_ok' (orc_cons diffOf_ok' (orc_cons leans_ok (orc_cons keep_ok (orc_cons keepBools_ok orc_nil))))))) Tryz.func9 (by kernel_rfl) (by kernel_rfl) fun us u hR => ⟨0, fun C E hC => by
 obtain ⟨rfl, hu⟩ := hR
 have kb := hC 26 byR (by simp)
 obtain ⟨s3, l3, d3, b3, e3⟩ := by_q kb 3 1 3 (by decide) (by decide +kernel) (by decide +kernel)
 obtain ⟨s2, l2, d2, b2, e2⟩ := by_q kb 2 1 2 (by decide) (by decide +kernel) (by decide +kernel)
 obtain ⟨s0, l0, d0, b0, e0⟩ := by_q kb 0 1 0 (by decide) (by decide +kernel) (by decide +kernel)
 obtain ⟨sh, lh, dh, bh, eh⟩ := by_q kb (-3) 4 (-3 / 4) (by decide) (by decide +kernel) (by decide +kernel)
 have kq := hC 33 quotR (by simp) _ _ ⟨rfl, rfl⟩
 have L3 : LB (s3, l3, d3) := e3 ▸ LB_q (by decide +kernel)
 have L2 : LB (s2, l2, d2) := e2 ▸ LB_q (by decide +kernel)
 have L32 : ∀ a ∈ [(s3, l3, d3), (s2, l2, d2)], LB a := by simp [L3, L2]
 have c5 : cnt quotC ≤ 1000 := by decide
 have cc : cnt [(s3, l3, d3), (s2, l2, d2)] ≤ 1000000 := by unfold cnt; simp
 have o1 := hC 11 diffOfR' (by simp) _ _ ⟨quotC, 4, 1, _, quot_LB, c5, .inl rfl, rfl, rfl⟩
 have o2 := hC 11 diffOfR' (by simp) _ _ ⟨quotC, 4, 2, _, quot_LB, c5, .inl rfl, rfl, rfl⟩
 have o3 := hC 11 diffOfR' (by simp) _ _ ⟨[], 0, 0, nilU, by simp, by decide, .inr ⟨rfl, 7, rfl⟩, rfl, rfl⟩
 have v1' := v1.1
 have v1c := v1.2
 have p1 := hC 22 ofR' (by simp) _ _ ⟨(derS quotC 4 1).1, 9, [(s3, l3, d3), (s2, l2, d2)], _, derS_LB (fun _ h => h.wide) quot_good quot_LB, by rw [v1c]; omega, L32, cc, .inl rfl, rfl, rfl⟩
 have v2' := v2.1
 have v2c := v2.2
 have p2 := hC 22 ofR' (by simp) _ _ ⟨(derS quotC 4 2).1, (derS quotC 4 2).2.1, [(s3, l3, d3), (s2, l2, d2)], _, derS_LB (fun _ h => h.wide) quot_good quot_LB, by rw [v2c]; omega, L32, cc, .inl rfl, rfl, rfl⟩
 have q1 := hC 15 leansR (by simp) _ _ ⟨quotC, 4, 1, quot_LB, by omega, rfl, rfl⟩
 have r1 := hC 24 keepR (by simp) _ _ ⟨(sh, lh, dh), (sh, lh, dh), by rw [eh]; decide +kernel, by rw [eh]; decide +kernel, rfl, rfl⟩
 have r2 := hC 24 keepR (by simp) _ _ ⟨(s0, l0, d0), (s0, l0, d0), by rw [e0]; decide +kernel, by rw [e0]; decide +kernel, rfl, rfl⟩
 have r4 := hC 14 keepBoolsR (by simp) _ _ ⟨[false, true, true, false, true], [false, true, true, false, true], by decide, rfl, rfl⟩
 rw [decide_eq_true rfl] at r1 r2 r4
 rw [show ofS (derS quotC 4 1).1 9 [(s3, l3, d3), (s2, l2, d2)] = (sh, lh, dh, 0) by rw [e3, e2, v3, ← eh]; rfl] at p1
 rw [show ofS (derS quotC 4 2).1 (derS quotC 4 2).2.1 [(s3, l3, d3), (s2, l2, d2)] = (s0, l0, d0, 0) by rw [e3, e2, v4, ← e0]; rfl] at p2
 unfold leansU at q1
 rw [if_pos v6.1, v6.2] at q1
 have o1 : C 11 [cU quotC, ui 4, ui 1] (.tup [cU (derS quotC 4 1).1, ui 9, ui 0]) := by
  have e : derU (derS quotC 4 1) = .tup [cU (derS quotC 4 1).1, ui 9, ui 0] := by unfold derU; rw [v1']; rfl
  rw [← e]; exact o1
 have o2 : C 11 [cU quotC, ui 4, ui 2] (.tup [cU (derS quotC 4 2).1, ui (derS quotC 4 2).2.1, ui 0]) := by
  have e : derU (derS quotC 4 2) = .tup [cU (derS quotC 4 2).1, ui (derS quotC 4 2).2.1, ui 0] := by unfold derU; rw [v2', if_pos rfl]
  rw [← e]; exact o2
 have o3 : C 11 [nilU, ui 0, ui 0] (.tup [nilU, ui 0, ui 1]) := by
  have e : derU (derS [] 0 0) = .tup [nilU, ui 0, ui 1] := by unfold derU; rw [v5]; rfl
  rw [← e]; exact o3
 have m1 := cnt_map (derS quotC 4 1).1 tU
 have m2 := cnt_map (derS quotC 4 2).1 tU
 rw [v1c] at m1
 rw [v2c] at m2
 unfold cU at o1 o2 p1 p2 kq q1
 obtain ⟨D1, hD1⟩ : ∃ D, (derS quotC 4 1).1.map tU = D := ⟨_, rfl⟩
 obtain ⟨D2, hD2⟩ : ∃ D, (derS quotC 4 2).1.map tU = D := ⟨_, rfl⟩
 obtain ⟨k2, hk2⟩ : ∃ k, (derS quotC 4 2).2.1 = k := ⟨_, rfl⟩
 obtain ⟨cs, hcs⟩ : ∃ cs, quotC.map tU = cs := ⟨_, rfl⟩
 rw [hD1] at o1 p1 m1
 rw [hD2, hk2] at o2 p2
 rw [hD2] at m2
 rw [hcs] at o1 o2 kq q1
 have p1 : C 22 [.s 7 D1, ui 9, .s 3 [[ub s3, .l l3, .l d3], [ub s2, .l l2, .l d2]]] (.tup [.agg [ub sh, .l lh, .l dh], ui 0]) := p1
 have p2 : C 22 [.s 7 D2, ui k2, .s 3 [[ub s3, .l l3, .l d3], [ub s2, .l l2, .l d2]]] (.tup [.agg [ub s0, .l l0, .l d0], ui 0]) := p2
 have q1 : C 15 [.s 7 cs, ui 4, ui 1] (.s 1 [[ub false], [ub true], [ub true], [ub false], [ub true]]) := q1
 have r1 : C 24 [.agg [ub sh, .l lh, .l dh], .agg [ub sh, .l lh, .l dh]] (ub true) := r1
 have r2 : C 24 [.agg [ub s0, .l l0, .l d0], .agg [ub s0, .l l0, .l d0]] (ub true) := r2
 have r4 : C 14 [.s 1 [[ub false], [ub true], [ub true], [ub false], [ub true]], .s 1 [[ub false], [ub true], [ub true], [ub false], [ub true]]] (ub true) := r4
 clear kb hC v1' v1c v2' v2c L3 L2 L32 c5 cc e3 e2 e0 eh hD1 hD2 hk2 hcs
 cbv; (repeat ((first | with_reducible refine ln fun _ _ _ => ?_ | refine tt ?_ | refine cl ?_); cbv)); exact hu.symm⟩
def tameB (c : List Tm) (xs : List R3) : Bool := !(c.any fun t => overQ 4 t.q) && (!(xs.any (overQ 4)) && decide (cnt c ≤ 60))
def tameR (us : List U) (u : U) : Prop := ∃ c xs, cnt c ≤ 9223372036854775807 ∧ cnt xs ≤ 9223372036854775807 ∧ us = [cU c, qsU xs] ∧ u = ub (tameB c xs)
theorem over_4 {s : Bool} {l d : List Int} : (overQ 4 (s, l, d) = true ↔ 4 < cnt l ∨ 4 < cnt d) := by
 unfold overQ
 simp
theorem tame_ok : SoundF Tryz.prog 18 tameR := sound [] orc_nil Tryz.func18 (by kernel_rfl) (by kernel_rfl) fun us u hR => by
 obtain ⟨c, xs, hn, hxn, rfl, hu⟩ := hR
 obtain ⟨r, hr⟩ : ∃ r, (cnt c).toNat + (cnt xs).toNat < r := ⟨_, Nat.lt_succ_self _⟩
 refine ⟨r, fun C E hC => ?_⟩
 have hm := fun i (h0 : 0 ≤ i) (h1 : i < cnt c) => nth_map (c := c) tU h0 h1
 have hmx := fun i (h0 : 0 ≤ i) (h1 : i < cnt xs) => nth_map (c := xs) qU h0 h1
 have hc := cnt_map c tU
 have hxc := cnt_map xs qU
 have hc0 := cnt0 c
 have hx0 := cnt0 xs
 unfold tameB at hu
 unfold cU qsU
 generalize c.map tU = cs at *
 generalize xs.map qU = ys at *
 cbv
 (repeat ((first | with_reducible refine ln fun _ _ _ => ?_ | refine tt ?_ | refine ff ?_ | refine tt ?_ rfl | with_reducible refine wr fun _ _ => ?_ | refine rp fun _ _ _ => ?_ | with_reducible refine bq ?_ | refine cl ?_ | refine sd ?_); cbv))
 refine lets [0, 1, 5] ?_
 cbv
 refine loop_inv (fun j a h => ∃ i : Int, 0 ≤ i ∧ i ≤ cnt c ∧ j = (cnt c - i).toNat ∧ (∀ (x : Nat) t, (x : Int) < i → c[x]? = some t → overQ 4 t.q = false) ∧ a = [.s 7 cs, .s 3 ys, .lost, .lost, .lost, ui i, .lost, .lost, .lost, .lost, .lost, .lost, .lost, .lost, .lost, .lost, .lost, .lost, .lost, .lost, .lost, .lost, .lost, .lost, .lost, .lost, .lost, .lost, .lost, .lost, .lost, .lost, .lost, .lost, .lost, .lost, .lost, .lost, .lost, .lost, .lost, .lost, .lost, .lost, .lost, .lost, .lost, .lost, .lost, .lost, .lost, .lost, .lost, .lost, .lost, .lost, .lost, .lost] ∧ h = []) ?_ r (cnt c).toNat _ _ (by omega) ⟨0, by omega, by omega, by omega, fun x t hx _ => absurd hx (by omega), rfl, rfl⟩
 rintro j a h K ⟨i, i0, i1, hj, hg, rfl, rfl⟩ hK
 rcases Decidable.em (i < cnt c) with hlt | hlt
 ·obtain ⟨t, ht, hx⟩ := hm i i0 hlt
  have hg1 := fun hf => any_upto (f := fun t => overQ 4 t.q) i0 ht hf hg
  have hg2 : overQ 4 t.q = true → (c.any fun t => overQ 4 t.q) = true := fun hf => any_yes (f := fun t => overQ 4 t.q) ht hf
  obtain ⟨kd, ta, tb, m, s, l, d⟩ := t
  dsimp only at hg1 hg2
  have ho := over_4 (s := s) (l := l) (d := d)
  generalize overQ 4 (s, l, d) = g at *
  clear hm hmx hg
  rcases Decidable.em (4 < cnt l) with h1 | h1
  ·rw [hg2 (ho.2 (.inl h1)), Bool.not_true, Bool.false_and] at hu
   clear hg1 hg2 hK ho
   cbv
   (repeat ((first | with_reducible refine ln fun _ _ _ => ?_ | refine tt ?_); cbv))
   refine el ?_ (by omega) hx
   cbv
   (repeat ((first | with_reducible refine ln fun _ _ _ => ?_ | refine tt ?_); cbv))
   exact hu.symm
  rcases Decidable.em (4 < cnt d) with h2 | h2
  ·rw [hg2 (ho.2 (.inr h2)), Bool.not_true, Bool.false_and] at hu
   clear hg1 hg2 hK ho
   cbv
   (repeat ((first | with_reducible refine ln fun _ _ _ => ?_ | refine tt ?_); cbv))
   refine el ?_ (by omega) hx
   cbv
   (repeat ((first | with_reducible refine ln fun _ _ _ => ?_ | refine ff ?_); cbv))
   refine el ?_ (by omega) hx
   cbv
   (repeat ((first | with_reducible refine ln fun _ _ _ => ?_ | refine tt ?_); cbv))
   exact hu.symm
  ·have hg1 := hg1 (by cases g; rfl; exact absurd (ho.1 rfl) (by omega))
   clear hg2 ho
   cbv
   (repeat ((first | with_reducible refine ln fun _ _ _ => ?_ | refine tt ?_); cbv))
   refine el ?_ (by omega) hx
   cbv
   (repeat ((first | with_reducible refine ln fun _ _ _ => ?_ | refine ff ?_); cbv))
   refine el ?_ (by omega) hx
   cbv
   (repeat ((first | with_reducible refine ln fun _ _ _ => ?_ | refine ff ?_ | with_reducible refine wr fun _ _ => ?_); cbv))
   rename_i i' hi'
   refine lets [0, 1, 5] ?_
   exact hK (cnt c - (i + 1)).toNat _ _ (by omega) ⟨i + 1, by omega, by omega, rfl, hg1, by rw [hi']; rfl, rfl⟩
 rw [any_no (f := fun t => overQ 4 t.q) fun x t hx => hg x t (by omega), Bool.not_false, Bool.true_and] at hu
 clear hg hm hK
 cbv
 (repeat ((first | with_reducible refine ln fun _ _ _ => ?_ | refine ff ?_); cbv))
 refine lets [0, 1, 6] ?_
 cbv
 refine loop_inv (fun j a h => ∃ i : Int, 0 ≤ i ∧ i ≤ cnt xs ∧ j = (cnt xs - i).toNat ∧ (∀ (x : Nat) t, (x : Int) < i → xs[x]? = some t → overQ 4 t = false) ∧ a = [.s 7 cs, .s 3 ys, .lost, .lost, .lost, .lost, ui i, .lost, .lost, .lost, .lost, .lost, .lost, .lost, .lost, .lost, .lost, .lost, .lost, .lost, .lost, .lost, .lost, .lost, .lost, .lost, .lost, .lost, .lost, .lost, .lost, .lost, .lost, .lost, .lost, .lost, .lost, .lost, .lost, .lost, .lost, .lost, .lost, .lost, .lost, .lost, .lost, .lost, .lost, .lost, .lost, .lost, .lost, .lost, .lost, .lost, .lost, .lost] ∧ h = []) ?_ r (cnt xs).toNat _ _ (by omega) ⟨0, by omega, by omega, by omega, fun x t hx _ => absurd hx (by omega), rfl, rfl⟩
 rintro j2 a h K2 ⟨p, p0, p1, hj2, hg, rfl, rfl⟩ hK
 rcases Decidable.em (p < cnt xs) with hlt2 | hlt2
 ·obtain ⟨⟨s, l, d⟩, ht, hx⟩ := hmx p p0 hlt2
  have hg1 := fun hf => any_upto (f := overQ 4) p0 ht hf hg
  have hg2 : overQ 4 (s, l, d) = true → (xs.any (overQ 4)) = true := fun hf => any_yes (f := overQ 4) ht hf
  have ho := over_4 (s := s) (l := l) (d := d)
  generalize overQ 4 (s, l, d) = g at *
  clear hmx hg
  rcases Decidable.em (4 < cnt l) with h1 | h1
  ·rw [hg2 (ho.2 (.inl h1)), Bool.not_true, Bool.false_and] at hu
   clear hg1 hg2 hK ho
   cbv
   (repeat ((first | with_reducible refine ln fun _ _ _ => ?_ | refine tt ?_); cbv))
   refine el ?_ (by omega) hx
   cbv
   (repeat ((first | with_reducible refine ln fun _ _ _ => ?_ | refine tt ?_); cbv))
   exact hu.symm
  rcases Decidable.em (4 < cnt d) with h2 | h2
  ·rw [hg2 (ho.2 (.inr h2)), Bool.not_true, Bool.false_and] at hu
   clear hg1 hg2 hK ho
   cbv
   (repeat ((first | with_reducible refine ln fun _ _ _ => ?_ | refine tt ?_); cbv))
   refine el ?_ (by omega) hx
   cbv
   (repeat ((first | with_reducible refine ln fun _ _ _ => ?_ | refine ff ?_); cbv))
   refine el ?_ (by omega) hx
   cbv
   (repeat ((first | with_reducible refine ln fun _ _ _ => ?_ | refine tt ?_); cbv))
   exact hu.symm
  ·have hg1 := hg1 (by cases g; rfl; exact absurd (ho.1 rfl) (by omega))
   clear hg2 ho
   cbv
   (repeat ((first | with_reducible refine ln fun _ _ _ => ?_ | refine tt ?_); cbv))
   refine el ?_ (by omega) hx
   cbv
   (repeat ((first | with_reducible refine ln fun _ _ _ => ?_ | refine ff ?_); cbv))
   refine el ?_ (by omega) hx
   cbv
   (repeat ((first | with_reducible refine ln fun _ _ _ => ?_ | refine ff ?_ | with_reducible refine wr fun _ _ => ?_); cbv))
   rename_i i' hi'
   refine lets [0, 1, 6] ?_
   exact hK (cnt xs - (p + 1)).toNat _ _ (by omega) ⟨p + 1, by omega, by omega, rfl, hg1, by rw [hi']; rfl, rfl⟩
 ·rw [any_no (f := overQ 4) fun x t hx => hg x t (by omega), Bool.not_false, Bool.true_and] at hu
  clear hg hmx hK
  cbv
  rcases Decidable.em (cnt c ≤ 60) with h5 | h5
  ·rw [decide_eq_true h5] at hu
   (repeat ((first | with_reducible refine ln fun _ _ _ => ?_ | refine tt ?_ | refine ff ?_); cbv)); exact hu.symm
  ·rw [decide_eq_false h5] at hu
   (repeat ((first | with_reducible refine ln fun _ _ _ => ?_ | refine ff ?_); cbv)); exact hu.symm
theorem over_no {n : Int} {q : R3} (h : overQ n q = false) : cnt q.2.1 ≤ n ∧ cnt q.2.2 ≤ n := by
 unfold overQ at h
 simp only [Bool.or_eq_false_iff, decide_eq_false_iff_not] at h
 omega
theorem largeC_all {c : List Tm} (h : largeC c = false) : cnt c ≤ 400 ∧ ∀ t ∈ c, cnt t.q.2.1 ≤ 1000000 ∧ cnt t.q.2.2 ≤ 1000000 := by
 unfold largeC at h
 simp only [Bool.or_eq_false_iff, decide_eq_false_iff_not] at h
 refine ⟨by have := h.1.1; omega, fun t ht => ?_⟩
 have := List.any_eq_false.1 h.1.2 t ht
 have := over_no (by simpa using this)
 omega
theorem tmod_at {x n r : Int} (h0 : 0 ≤ x) (hn : 0 < n) (h : r = Int.tmod x n) : 0 ≤ r ∧ r < n := by
 rw [Int.tmod_eq_emod_of_nonneg h0] at h
 rw [h]
 exact ⟨Int.emod_nonneg _ (by omega), Int.emod_lt_of_pos _ hn⟩
theorem derU_good (D : List Tm) (k : Int) : derU (D, k, 0) = .tup [.s 7 (D.map tU), ui k, ui 0] := by unfold derU cU; rw [if_pos rfl]
theorem Der.LB {c D : List Tm} {i s k : Int} (h : derS c i s = (D, k, 0)) (hq : ∀ t ∈ c, LB t.q) : ∀ t ∈ D, LB t.q := fun t ht => by
 have hm := (der_of h).may
 unfold mayC at hm
 simp only [Bool.and_eq_true, decide_eq_true_eq] at hm
 have := derS_LB (P := fun q => Num.LB q) (s := s) (i := i) (fun _ h => h.wide) hm.2 hq
 rw [h] at this
 exact this t ht
theorem Der.root {c D : List Tm} {i s k : Int} (h : Der c i s D k) : 0 ≤ i ∧ i < cnt c ∧ goodC c = true := by
 have hm := h.may
 unfold mayC at hm
 simp only [Bool.and_eq_true, decide_eq_true_eq] at hm
 exact ⟨hm.1.1, hm.1.2, hm.2⟩
def atR (us : List U) (u : U) : Prop := ∃ c i s xs, (∀ t ∈ c, LB t.q) ∧ cnt c ≤ 1000 ∧ (∀ a ∈ xs, LB a) ∧ cnt xs ≤ 1000000 ∧ us = [cU c, ui i, ui s, qsU xs] ∧ u = .tup [uR (atS c i s xs).1, ub (atS c i s xs).2]
theorem at_ok : SoundF Tryz.prog 27 atR := sound [(11, diffOfR), (22, ofR')] (orc_cons diffOf_ok (orc_cons of_ok' orc_nil)) Tryz.func27 (by kernel_rfl) (by kernel_rfl) fun us u hR => ⟨0, fun C E hC => by
 obtain ⟨c, i, s, xs, hq, hn, hx, hxn, rfl, hu⟩ := hR
 have o1 := hC 11 diffOfR (by simp) _ _ ⟨c, i, s, hq, hn, rfl, rfl⟩
 have hOf := hC 22 ofR' (by simp)
 unfold atS at hu
 obtain ⟨cs, hcs⟩ : ∃ cs, cU c = .s 7 cs := ⟨_, rfl⟩
 obtain ⟨ys, hys⟩ : ∃ ys, qsU xs = .s 3 ys := ⟨_, rfl⟩
 rw [hcs] at o1 ⊢
 rw [hys]
 by_cases he : (derS c i s).2.2 = 0
 ·rw [if_pos he] at hu
  obtain ⟨D, k, e⟩ : ∃ D k, derS c i s = (D, k, 0) := ⟨(derS c i s).1, (derS c i s).2.1, by rw [← he]⟩
  have hd := der_of e
  have hr := hd.root
  have hl := hd.len
  have hDL := Der.LB e hq
  have p := hOf _ _ ⟨D, k, xs, _, hDL, by omega, hx, hxn, .inl rfl, rfl, rfl⟩
  rw [e] at hu o1
  rw [derU_good] at o1
  rw [hys] at p
  unfold cU at p
  obtain ⟨s5, l5, d5, e5, p, hp5⟩ := tR4 p
  have hu : u = .tup [.agg [ub s5, .l l5, .l d5], ub (decide (e5 = 0))] := by rw [hu, ← hp5]; rfl
  generalize D.map tU = ds at *
  clear hOf hd hr hl hDL e he hp5 hC hq hx
  by_cases h5 : e5 = 0
  ·rw [decide_eq_true h5] at hu
   cbv
   (repeat ((first | refine tt ?_ | refine ff ?_ | refine cl ?_); cbv))
   exact hu.symm
  ·rw [decide_eq_false h5] at hu
   cbv
   (repeat ((first | refine ff ?_ | refine cl ?_); cbv))
   exact hu.symm
 ·rw [if_neg he] at hu
  unfold derU at o1
  rw [if_neg he] at o1
  generalize (derS c i s).2.1 = k at *
  generalize (derS c i s).2.2 = e at *
  clear hOf hC hq hx
  cbv
  (repeat ((first | refine tt ?_ | refine cl ?_); cbv))
  exact hu.symm⟩
set_option maxHeartbeats 4500000
theorem cmp1R {a b : List Int} (ha : Limbs a) (hb : Limbs b) (h1 : cnt a ≤ 1000000) (h2 : cnt b ≤ 1000000) : steelyardref01_Cmp.R [.l a, .l b] (ui (cmpN (V a) (V b))) := by obtain ⟨k, hk⟩ := (cmp1_tells ha hb (by unfold cnt at h1; omega) (by unfold cnt at h2; omega)).rounds; exact ⟨k, _, _, _, rfl, hk, rfl⟩
def posR (us : List U) (u : U) : Prop := ∃ l, Limbs l ∧ cnt l ≤ 1000000 ∧ us = [.l l] ∧ u = uI (V l : Int)
theorem pos_ok : SoundF Tryz.prog 60 posR := sound [(96, make6R)] (orc_cons make6_ok orc_nil) Tryz.func60 (by kernel_rfl) (by kernel_rfl) fun us u hR => ⟨0, fun C E hC => by
 obtain ⟨l, hl, hc, rfl, hu⟩ := hR
 obtain ⟨s1, l1, k1, e1, e2⟩ := tI (hC 96 make6R (by simp) _ _ ⟨false, l, hl, hc, rfl, rfl⟩)
 have hz : Z false l = (V l : Int) := rfl
 rw [hz] at e1 e2
 have hu' : u = .agg [ub s1, .l l1] := by rw [hu, e1, e2]; rfl
 clear hu e1 e2 hz
 cbv; (repeat ((refine cl ?_); cbv)); exact hu'.symm⟩
def wideQ (q : Rat) : Prop := len q.num.natAbs ≤ 45000 ∧ len q.den ≤ 45000
theorem wide_of {q : Rat} (h : fits q = true) : wideQ q := by
 have := fits_len h
 unfold wideQ
 omega
theorem rat_partsW {p : Rat} (hp : wideQ p) : ∃ s l b, ratOf p = (s, l, b) ∧ Limbs l ∧ Limbs b ∧ cnt l ≤ 45000 ∧ cnt b ≤ 45000 ∧ Z s l = p.num ∧ V b = p.den ∧ V l = p.num.natAbs ∧ s = decide (p.num < 0) :=
 ⟨_, _, _, rfl, N_limbs _, N_limbs _, by rw [cnt_N]; have := hp.1; omega, by rw [cnt_N]; have := hp.2; omega, Z_ratOf p, V_ratOf p, V_N _, rfl⟩
def cmp6R (us : List U) (u : U) : Prop := ∃ s1 l1 s2 l2, Limbs l1 ∧ Limbs l2 ∧ cnt l1 ≤ 1000000 ∧ cnt l2 ≤ 1000000 ∧ us = [.agg [ub s1, .l l1], .agg [ub s2, .l l2]] ∧ u = ui (cmpZ (Z s1 l1) (Z s2 l2))
theorem cmp6_ok : SoundF Tryz.prog 64 cmp6R := sound [(97, trim6R), (100, steelyardref01_Cmp.R)] (orc_cons trim6_ok (orc_cons steelyardref01_Cmp.sound orc_nil)) Tryz.func64 (by kernel_rfl) (by kernel_rfl) fun us u hR => ⟨0, fun C E hC => by
 obtain ⟨s1, l1, s2, l2, h1, h2, c1, c2, rfl, hu⟩ := hR
 obtain ⟨t1, m1, k1, e1, f1⟩ := tI (hC 97 trim6R (by simp) _ _ ⟨s1, l1, h1, by omega, rfl, rfl⟩)
 obtain ⟨t2, m2, k2, e2, f2⟩ := tI (hC 97 trim6R (by simp) _ _ ⟨s2, l2, h2, by omega, rfl, rfl⟩)
 have b1 := lenV h1
 have b2 := lenV h2
 rw [Z_abs] at f1 f2
 rw [← Z_abs s1 l1] at f1 b1
 rw [← Z_abs s2 l2] at f2 b2
 generalize Z s1 l1 = x at *
 generalize Z s2 l2 = y at *
 have g1 : Limbs m1 := f1 ▸ N_limbs _
 have g2 : Limbs m2 := f2 ▸ N_limbs _
 have v1 : V m1 = x.natAbs := by rw [f1, V_N]
 have v2 : V m2 = y.natAbs := by rw [f2, V_N]
 have k3 := hC 100 steelyardref01_Cmp.R (by simp) _ _ (cmp1R g1 g2 (by rw [f1, cnt_N]; omega) (by rw [f2, cnt_N]; omega))
 have k4 := hC 100 steelyardref01_Cmp.R (by simp) _ _ (cmp1R g2 g1 (by rw [f2, cnt_N]; omega) (by rw [f1, cnt_N]; omega))
 rw [v1, v2] at k3 k4
 have hz : (t1 = true ∧ t2 = true ∧ cmpZ x y = cmpN y.natAbs x.natAbs) ∨ (t1 = true ∧ t2 = false ∧ cmpZ x y = -1) ∨ (t1 = false ∧ t2 = true ∧ cmpZ x y = 1) ∨ (t1 = false ∧ t2 = false ∧ cmpZ x y = cmpN x.natAbs y.natAbs) := by
  unfold cmpZ cmpN
  by_cases hx : x < 0
  ·by_cases hy : y < 0
   ·refine .inl ⟨e1.trans (decide_eq_true hx), e2.trans (decide_eq_true hy), ?_⟩
    repeat' split
    all_goals omega
   ·exact .inr (.inl ⟨e1.trans (decide_eq_true hx), e2.trans (decide_eq_false hy), if_pos (by omega)⟩)
  ·by_cases hy : y < 0
   ·exact .inr (.inr (.inl ⟨e1.trans (decide_eq_false hx), e2.trans (decide_eq_true hy), by rw [if_neg (by omega), if_pos (by omega)]⟩))
   ·refine .inr (.inr (.inr ⟨e1.trans (decide_eq_false hx), e2.trans (decide_eq_false hy), ?_⟩))
    repeat' split
    all_goals omega
 obtain ⟨n1, hn1⟩ : ∃ n, cmpN x.natAbs y.natAbs = n := ⟨_, rfl⟩
 obtain ⟨n2, hn2⟩ : ∃ n, cmpN y.natAbs x.natAbs = n := ⟨_, rfl⟩
 rw [hn1] at k3 hz
 rw [hn2] at k4 hz
 clear e1 e2 f1 f2 g1 g2 v1 v2 hn1 hn2 b1 b2
 rcases hz with ⟨h1, h2, h3⟩ | ⟨h1, h2, h3⟩ | ⟨h1, h2, h3⟩ | ⟨h1, h2, h3⟩ <;> (
  rw [h3] at hu
  clear h3
  subst h1
  subst h2
  cbv; (repeat ((first | with_reducible refine bq ?_ | refine cl ?_); cbv)); exact hu.symm)⟩
def lessR (us : List U) (u : U) : Prop := ∃ p q : Rat, wideQ p ∧ wideQ q ∧ us = [uR (ratOf p), uR (ratOf q)] ∧ u = ui (cmpQ p q)
theorem less_ok : SoundF Tryz.prog 31 lessR := sound [(60, posR), (59, mul6R), (64, cmp6R)] (orc_cons pos_ok (orc_cons mul6_ok (orc_cons cmp6_ok orc_nil))) Tryz.func31 (by kernel_rfl) (by kernel_rfl) fun us u hR => ⟨0, fun C E hC => by
 obtain ⟨p, q, hp, hq, rfl, hu⟩ := hR
 obtain ⟨s1, l1, b1, ep, f1, f2, f3, f4, f5, f6, f7, f8⟩ := rat_partsW hp
 obtain ⟨s2, l2, b2, eq, g1, g2, g3, g4, g5, g6, g7, g8⟩ := rat_partsW hq
 rw [ep, eq]
 unfold uR wideQ at *
 dsimp only
 obtain ⟨s3, l3, k3, i3, i4⟩ := tI (hC 60 posR (by simp) _ _ ⟨b2, g2, by omega, rfl, rfl⟩)
 obtain ⟨s4, l4, k4, i5, i6⟩ := tI (hC 60 posR (by simp) _ _ ⟨b1, f2, by omega, rfl, rfl⟩)
 rw [g6, Int.natAbs_natCast] at i4
 rw [f6, Int.natAbs_natCast] at i6
 have z3 : Z s3 l3 = q.den := by rw [i3, i4, g6]; have := Z_I (q.den : Int); rw [I_1, I_2, Int.natAbs_natCast] at this; exact this
 have z4 : Z s4 l4 = p.den := by rw [i5, i6, f6]; have := Z_I (p.den : Int); rw [I_1, I_2, Int.natAbs_natCast] at this; exact this
 have k5 := hC 59 mul6R (by simp) _ _ ⟨s1, l1, s3, l3, f1, i4 ▸ N_limbs _, by omega, by rw [i4, cnt_N]; omega, rfl, rfl⟩
 have k6 := hC 59 mul6R (by simp) _ _ ⟨s2, l2, s4, l4, g1, i6 ▸ N_limbs _, by omega, by rw [i6, cnt_N]; omega, rfl, rfl⟩
 rw [f5, z3] at k5
 rw [g5, z4] at k6
 have m1 := len_mulZ p.num q.den
 have m2 := len_mulZ q.num p.den
 rw [Int.natAbs_natCast] at m1 m2
 obtain ⟨s5, l5, k5, i7, i8⟩ := tI k5
 obtain ⟨s6, l6, k6, j7, j8⟩ := tI k6
 have z5 : Z s5 l5 = p.num * q.den := by rw [i7, i8]; exact Z_I _
 have z6 : Z s6 l6 = q.num * p.den := by rw [j7, j8]; exact Z_I _
 have k7 := hC 64 cmp6R (by simp) _ _ ⟨s5, l5, s6, l6, i8 ▸ N_limbs _, j8 ▸ N_limbs _, by rw [i8, cnt_N]; omega, by rw [j8, cnt_N]; omega, rfl, rfl⟩
 rw [z5, z6, cmpZ_cmpQ] at k7
 generalize cmpQ p q = cv at *
 clear ep eq i3 i4 i5 i6 i7 i8 z3 z4 z5 z6 m1 m2 f1 f2 f3 f4 f5 f6 f7 f8 g1 g2 g3 g4 g5 g6 g7 g8 hp hq j7 j8
 cbv; (repeat ((refine cl ?_); cbv)); exact hu.symm⟩
set_option maxHeartbeats 8000000
theorem term_fine {l : List Bool} {d : List Int} {c : List Tm} {t : Tm} (hn : -100 ≤ t.n) : (termS l d c false t).2.2 = false := by
 unfold termS productS quotientS raisedS sumS
 dsimp only
 repeat' split
 all_goals first | rfl | (rw [Bool.false_or]; exact decide_eq_false (by omega))
theorem derN_fine {c : List Tm} {l nd : List Bool} {m : Nat} (hn : ∀ t ∈ c, -100 ≤ t.n) : ∀ q, (derN c l nd m q).2.2 = false
 | 0 => rfl
 | q + 1 => by
  have ih := derN_fine (l := l) (nd := nd) (m := m) hn q
  unfold derN
  split
  ·split
   ·rename_i t ht
    dsimp only
    rw [ih]
    exact term_fine (hn t (List.mem_of_getElem? ht))
   ·exact ih
  ·exact ih
theorem der_fine {c : List Tm} {i s : Int} (hm : mayC c i = true) (hs : 0 ≤ s) (hn : ∀ t ∈ c, -100 ≤ t.n) (hc : cnt c ≤ 1000) : ∃ D k, derS c i s = (D, k, 0) ∧ Der c i s D k := by
 have hb : (derAll c i s).2.2 = false := derN_fine hn _
 have h1 := der_cnt c (leanN c s c.length) (needs c i.toNat) (i.toNat + 1) (i.toNat + 1)
 have hm' := hm
 unfold mayC at hm'
 simp only [Bool.and_eq_true, decide_eq_true_eq] at hm'
 have h2 : cnt (derAll c i s).1 ≤ 30000 := by
  unfold derAll
  omega
 have h0 : (derS c i s).2.2 = 0 := by
  unfold derS
  rw [if_pos ⟨hm, hs⟩]
  split
  ·rw [if_neg]
   rw [hb]
   simp
   omega
  ·rw [if_neg]
   rw [hb]
   simp
   omega
 obtain ⟨D, k, e⟩ : ∃ D k, derS c i s = (D, k, 0) := ⟨(derS c i s).1, (derS c i s).2.1, by rw [← h0]⟩
 exact ⟨D, k, e, der_of e⟩
theorem twice_law {c A B : List Tm} {i s r k l : Int} {xs : List R3} (ha : Der c i s A k) (hb : Der c i r B l) (h1 : (atS A k r xs).2 = true) (h2 : (atS B l s xs).2 = true) : (atS A k r xs).1 = ratOf (eQ xs s r c i) ∧ (atS B l s xs).1 = ratOf (eQ xs s r c i) ∧ fits (eQ xs s r c i) = true := by
 obtain ⟨_, e1, f1⟩ := at_num h1
 obtain ⟨_, e2, f2⟩ := at_num h2
 have d1 := (ha.sem xs r).d
 have d2 := (hb.sem xs s).d
 rw [d1] at e1 f1
 rw [d2, ← E_swap xs s r] at e2
 exact ⟨e1, e2, f1⟩
theorem tA {C : Orc} {n : Nat} {us : List U} {a : R3 × Bool} (h : C n us (.tup [uR a.1, ub a.2])) : ∃ s l b t, C n us (.tup [.agg [ub s, .l l, .l b], ub t]) ∧ ((s, l, b), t) = a := ⟨_, _, _, _, h, rfl⟩
def twiceR (us : List U) (u : U) : Prop := ∃ c k0 k1 xs, (∀ t ∈ c, TmOk t) ∧ cnt c ≤ 9223372036854775807 ∧ 0 ≤ k0 ∧ k0 ≤ 255 ∧ 0 ≤ k1 ∧ k1 ≤ 255 ∧ (∀ a ∈ xs, LB a) ∧ cnt xs ≤ 9223372036854775807 ∧ us = [cU c, .agg [.v (.int .u8 k0), .v (.int .u8 k1)], qsU xs] ∧ u = ub true
theorem twice_ok : SoundF Tryz.prog 7 twiceR := sound [(8, largeCR), (17, longLR), (18, tameR), (9, yesR), (21, cgoodR), (22, ofR), (27, atR), (11, diffOfR), (31, lessR)] (orc_cons largeC_ok (orc_cons longL_ok (orc_cons tame_ok (orc_cons wakes_ok (orc_cons good19_ok (orc_cons of_ok (orc_cons at_ok (orc_cons diffOf_ok (orc_cons less_ok orc_nil))))))))) Tryz.func7 (by kernel_rfl) (by kernel_rfl) fun us u hR => by
 obtain ⟨c, k0, k1, xs, hq, hn, k00, k01, k10, k11, hx, hxn, rfl, hu⟩ := hR
 obtain ⟨r, hr⟩ : ∃ r, (cnt c).toNat + 10 < r := ⟨_, Nat.lt_succ_self _⟩
 refine ⟨r, fun C E hC => ?_⟩
 have hqL : ∀ t ∈ c, LB t.q := fun t h => (hq t h).q
 have kl := hC 8 largeCR (by simp) _ _ ⟨c, hn, rfl, rfl⟩
 have kx := hC 17 longLR (by simp) _ _ ⟨xs, hxn, rfl, rfl⟩
 have kt := hC 18 tameR (by simp) _ _ ⟨c, xs, hn, hxn, rfl, rfl⟩
 have kw := hC 9 yesR (by simp) _ _ ⟨rfl, rfl⟩
 have kg := hC 21 cgoodR (by simp) _ _ ⟨c, hqL, hn, rfl, rfl⟩
 have hOf := hC 22 ofR (by simp)
 have hAt := hC 27 atR (by simp)
 have hDi := hC 11 diffOfR (by simp)
 have hL := hC 31 lessR (by simp)
 have hm := cnt_map c tU
 have hc0 := cnt0 c
 have hx0 := cnt0 xs
 have hmx := cnt_map xs qU
 have hcn := fun i (h0 : 0 ≤ i) (h1 : i < cnt c) => nth_map (c := c) tU h0 h1
 have hl4 := fun h => largeC_all (c := c) h
 clear hC hq
 obtain ⟨cs, hcs⟩ : ∃ cs, cs = c.map tU := ⟨_, rfl⟩
 obtain ⟨ys, hys⟩ : ∃ ys, ys = xs.map qU := ⟨_, rfl⟩
 have ecU : cU c = .s 7 cs := by rw [hcs]; rfl
 have eqU : qsU xs = .s 3 ys := by rw [hys]; rfl
 rw [← hcs] at hm hcn
 rw [← hys] at hmx
 rw [ecU] at kl kt kg ⊢
 rw [eqU] at kx kt ⊢
 generalize longL xs = g2 at *
 generalize tameB c xs = g3 at *
 generalize goodC c = g4 at *
 cases hg1 : largeC c
 case true =>
  rw [hg1] at kl
  clear hOf hAt hDi hL hcn hl4
  cbv
  (repeat ((refine cl ?_); cbv))
  exact hu.symm
 rw [hg1] at kl
 obtain ⟨hc4, hb7⟩ := hl4 hg1
 clear hl4 hg1
 rcases Decidable.em (cnt c = 0) with hz | hz
 ·clear hOf hAt hDi hL hcn
  cbv
  (repeat ((first | with_reducible refine ln fun _ _ _ => ?_ | refine tt ?_ | refine cl ?_); cbv))
  exact hu.symm
 rcases Decidable.em (7 < cnt c) with h60 | h60
 ·clear hOf hAt hDi hL hcn
  cbv
  (repeat ((first | with_reducible refine ln fun _ _ _ => ?_ | refine tt ?_ | refine ff ?_ | refine cl ?_); cbv))
  exact hu.symm
 cases g2
 case true =>
  clear hOf hAt hDi hL hcn
  cbv
  (repeat ((first | with_reducible refine ln fun _ _ _ => ?_ | refine ff ?_ | refine cl ?_); cbv))
  exact hu.symm
 cases g3
 case false =>
  clear hOf hAt hDi hL hcn
  cbv
  (repeat ((first | with_reducible refine ln fun _ _ _ => ?_ | refine ff ?_ | with_reducible refine bq ?_ | refine cl ?_); cbv))
  exact hu.symm
 cases g4
 case false =>
  clear hOf hAt hDi hL hcn
  cbv
  (repeat ((first | with_reducible refine ln fun _ _ _ => ?_ | refine ff ?_ | with_reducible refine bq ?_ | refine cl ?_); cbv))
  exact hu.symm
 rcases Decidable.em (4 < cnt xs) with h4 | h4
 ·clear hOf hAt hDi hL hcn
  cbv
  (repeat ((first | with_reducible refine ln fun _ _ _ => ?_ | refine tt ?_ | refine ff ?_ | with_reducible refine bq ?_ | refine cl ?_); cbv))
  exact hu.symm
 cbv
 (repeat ((first | with_reducible refine ln fun _ _ _ => ?_ | refine ff ?_ | with_reducible refine bq ?_ | refine cl ?_); cbv))
 refine lets [0, 2, 4, 7] ?_
 cbv
 refine loop_inv (fun j a h => ∃ q : Int, 0 ≤ q ∧ q ≤ cnt c ∧ j = (cnt c - q).toNat ∧ (∀ (x : Nat) t, (x : Int) < q → c[x]? = some t → -3 ≤ t.n) ∧ a = [.s 7 cs, .lost, .s 3 ys, .lost, .ptr 0 0, .lost, .lost, ui q, .lost, .lost, .lost, .lost, .lost, .lost, .lost, .lost, .lost, .lost, .lost, .lost, .lost, .lost, .lost, .lost, .lost, .lost, .lost, .lost, .lost, .lost, .lost, .lost, .lost, .lost, .lost, .lost, .lost, .lost, .lost, .lost, .lost, .lost, .lost, .lost, .lost, .lost, .lost, .lost, .lost, .lost, .lost, .lost, .lost, .lost, .lost, .lost, .lost, .lost, .lost, .lost, .lost, .lost, .lost, .lost, .lost, .lost, .lost, .lost, .lost, .lost, .lost, .lost, .lost, .lost, .lost, .lost, .lost, .lost, .lost, .lost, .lost, .lost, .lost, .lost, .lost, .lost, .lost, .lost, .lost, .lost, .lost, .lost, .lost, .lost, .lost, .lost, .lost, .lost, .lost, .lost, .lost, .lost, .lost, .lost, .lost, .lost, .lost, .lost, .lost, .lost, .lost, .lost, .lost, .lost, .lost, .lost, .lost, .lost, .lost, .lost, .lost, .lost, .lost, .lost, .lost, .lost, .lost, .lost, .lost, .lost, .lost, .lost, .lost, .lost, .lost, .lost, .lost, .lost, .lost, .lost, .lost, .lost, .lost, .lost, .lost, .lost, .lost, .lost, .lost, .lost, .lost] ∧ h = [some (.cells [.v (.int .u8 k0), .v (.int .u8 k1)])]) ?_ r (cnt c).toNat _ _ (by omega) ⟨0, by omega, by omega, by omega, fun x t hx _ => absurd hx (by omega), rfl, rfl⟩
 rintro j a h K ⟨q, q0, q1, hj, hnn, rfl, rfl⟩ hK
 rcases Decidable.em (q < cnt c) with hlt | hlt
 ·obtain ⟨t, ht, hy⟩ := hcn q q0 hlt
  have hK' := fun h3 : -3 ≤ t.n => hK (cnt c - (q + 1)).toNat _ _ (by omega) ⟨q + 1, by omega, by omega, rfl, fun x t' hx ht' => (by
   rcases Nat.lt_trichotomy x q.toNat with h | h | h
   ·exact hnn x t' (by omega) ht'
   ·subst h
    rw [ht] at ht'
    injection ht' with ht'
    rw [← ht']
    exact h3
   ·omega), rfl, rfl⟩
  clear hK hOf hAt hDi hL hcn hnn
  obtain ⟨kd, ta, tb, m, s, l, d⟩ := t
  rcases Decidable.em (3 < m) with h1 | h1
  ·cbv
   (repeat ((first | with_reducible refine ln fun _ _ _ => ?_ | refine tt ?_); cbv))
   refine el ?_ (by omega) hy
   cbv
   (repeat ((first | refine tt ?_ | refine cl ?_); cbv))
   exact hu.symm
  rcases Decidable.em (m < -3) with h2 | h2
  ·cbv
   (repeat ((first | with_reducible refine ln fun _ _ _ => ?_ | refine tt ?_); cbv))
   refine el ?_ (by omega) hy
   cbv
   (repeat ((refine ff ?_); cbv))
   refine el ?_ (by omega) hy
   cbv
   (repeat ((first | refine tt ?_ | refine cl ?_); cbv))
   exact hu.symm
  ·replace hK' := hK' (show -3 ≤ m by omega)
   cbv
   (repeat ((first | with_reducible refine ln fun _ _ _ => ?_ | refine tt ?_); cbv))
   refine el ?_ (by omega) hy
   cbv
   (repeat ((refine ff ?_); cbv))
   refine el ?_ (by omega) hy
   cbv
   (repeat ((first | refine ff ?_ | with_reducible refine wr fun _ _ => ?_); cbv))
   rename_i q' hq'
   refine lets [0, 2, 4, 7] ?_
   rw [hq']
   exact hK'
 have hN : ∀ t ∈ c, -100 ≤ t.n := fun t ht => by
  obtain ⟨x, hx, rfl⟩ := List.mem_iff_getElem.1 ht
  have := hnn x _ (by unfold cnt at hlt; omega) (List.getElem?_eq_getElem hx)
  omega
 clear hK hcn hnn
 cbv
 (repeat ((first | with_reducible refine ln fun _ _ _ => ?_ | refine ff ?_ | with_reducible refine wr fun _ _ => ?_); cbv))
 refine sd ?_ ⟨by decide, by decide⟩
 cbv
 (repeat ((first | with_reducible refine wr fun _ _ => ?_ | refine sd ?_); cbv))
 intro s hs
 cbv
 (repeat ((first | with_reducible refine ln fun _ _ _ => ?_ | refine tt ?_ | refine ff ?_ | refine tt ?_ rfl | with_reducible refine wr fun _ _ => ?_ | with_reducible refine wu fun _ _ => ?_ | refine rp fun _ _ _ => ?_ | refine cp fun _ => ?_ | with_reducible refine bq ?_ | refine cl ?_ | refine sd ?_); cbv))
 refine sd ?_ ⟨by decide, by decide⟩
 cbv
 (repeat ((first | with_reducible refine wr fun _ _ => ?_ | refine sd ?_); cbv))
 intro r2 hr2
 cbv
 (repeat ((first | with_reducible refine ln fun _ _ _ => ?_ | refine tt ?_ | refine ff ?_ | refine tt ?_ rfl | with_reducible refine wr fun _ _ => ?_ | with_reducible refine wu fun _ _ => ?_ | refine rp fun _ _ _ => ?_ | refine cp fun _ => ?_ | with_reducible refine bq ?_ | refine cl ?_ | refine sd ?_); cbv))
 rename_i n1 hn1 hn1' i hi x1 hx1 x2 hx2
 have hs := tmod_at (by omega) (by omega) hs
 have hr2 := tmod_at (by omega) (by omega) hr2
 obtain ⟨s1, l1, d1, e1, o1, g1⟩ := tR4 (hOf _ _ ⟨c, i, xs, hqL, by omega, hx, by omega, rfl, rfl⟩)
 rw [ecU, eqU] at o1
 rcases Decidable.em (e1 = 0) with z1 | z1
 case inr =>
  clear hOf hAt hDi hL g1
  (repeat ((first | refine tt ?_ | refine cl ?_); cbv))
  exact hu.symm
 subst z1
 have hO := of_num (c := c) (i := i) (xs := xs) (by rw [← g1])
 have hmay : mayC c i = true := by
  have := hO.made
  unfold madeB at this
  simp only [Bool.and_eq_true] at this
  exact this.1.1
 obtain ⟨A, k, eA, hA⟩ := der_fine (c := c) (i := i) (s := s) hmay (by omega) hN (by omega)
 obtain ⟨B, l, eB, hB⟩ := der_fine (c := c) (i := i) (s := r2) hmay (by omega) hN (by omega)
 have o2 := hDi _ _ ⟨c, i, s, hqL, by omega, rfl, rfl⟩
 have o3 := hDi _ _ ⟨c, i, r2, hqL, by omega, rfl, rfl⟩
 rw [eA, derU_good, ecU] at o2
 rw [eB, derU_good, ecU] at o3
 have la := hA.len
 have lb := hB.len
 obtain ⟨sa, ma, da, ta, pa, ga⟩ := tA (hAt _ _ ⟨A, k, r2, xs, Der.LB eA hqL, by omega, hx, by omega, rfl, rfl⟩)
 obtain ⟨sb, mb, db, tb, pb, gb⟩ := tA (hAt _ _ ⟨B, l, s, xs, Der.LB eB hqL, by omega, hx, by omega, rfl, rfl⟩)
 have hall : ta = true → tb = true → C 31 [.agg [ub sa, .l ma, .l da], .agg [ub sb, .l mb, .l db]] (ui 0) := fun h1 h2 => by
  subst h1 h2
  obtain ⟨v1, v2, f⟩ := twice_law (xs := xs) hA hB (by rw [← ga]) (by rw [← gb])
  rw [← ga] at v1
  rw [← gb] at v2
  have v1 : (sa, ma, da) = _ := v1
  have v2 : (sb, mb, db) = _ := v2
  have := hL _ _ ⟨_, _, wide_of f, wide_of f, rfl, rfl⟩
  rw [cmpQ_self] at this
  have h : C 31 [uR (sa, ma, da), uR (sb, mb, db)] (ui 0) := by rw [v1, v2]; exact this
  exact h
 rw [eqU] at pa pb
 unfold cU at pa pb
 generalize A.map tU = ra at *
 generalize B.map tU = rb at *
 clear hOf hAt hDi hL g1 hO hmay eA eB hA hB la lb ga gb hqL hx hN hb7 ecU eqU hcs hys
 cases ta
 ·clear hall
  (repeat ((first | refine ff ?_ | with_reducible refine bq ?_ | refine cl ?_); cbv))
  exact hu.symm
 cases tb
 ·clear hall
  (repeat ((first | refine ff ?_ | with_reducible refine bq ?_ | refine cl ?_); cbv))
  exact hu.symm
 ·replace hall := hall rfl rfl
  (repeat ((first | refine tt ?_ | refine ff ?_ | with_reducible refine bq ?_ | refine cl ?_); cbv))
  exact hu.symm
end Go.Proofs.YtjkcmnedolfkjaaGreat.Rd
end
