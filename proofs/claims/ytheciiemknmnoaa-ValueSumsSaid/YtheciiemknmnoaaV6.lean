/- Part 6 of the proof. -/
import Derived.Test.YtheciiemknmnoaaProg
import Derived.Laws.Tables
import Derived.Orders
import Derived.Below
import Derived.Deep.Draws
import Derived.Deep.AppendLies
import Derived.Maps.AppendAt
import Derived.OwnWalk
import Derived.Laws.BytesArg
import Derived.Laws.MakeOwn
import Derived.Laws.OwnMore
import Derived.Deep.OwnRows
import Derived.Tactics
import Derived.Lib.ConvBytes
import Derived.Laws.Slices
import Derived.WalkKit
import Derived.KernelRfl
import Derived.RowKit3
import Derived.Deep.LoopGhost
import Derived.Deep.QuietTactic
import Derived.BigQuiet
import Derived.WideLaws
import Derived.Deep.DeepCutAuto
import Derived.Deep.CutBlock
import Derived.Deep.RegionHeld3
import Derived.Laws.Rows
import Derived.Lib.AppendStr
import Derived.ArgAppend
import Derived.Laws.IdiomCopy
import Derived.RowKit
import Derived.OrdersHeld
import Derived.Laws.BitsLemmas
import Derived.Laws.Cells
import Derived.Great.BuildSlice
import Derived.Deep.Slices
import Derived.Laws.AppendOwn
import Derived.Laws.LoneSync
import Derived.LoopN
import Derived.Laws.StructEq
import Derived.Laws.Bits64b
import Derived.Laws.BitsAllLaws
import Derived.Test.YtheciiemknmnoaaV5
set_option linter.unusedVariables false
set_option linter.unusedSimpArgs false
section
set_option linter.unusedVariables false
set_option linter.unusedSimpArgs false
set_option maxRecDepth 100000
set_option maxHeartbeats 4000000
namespace Go.Proofs.Ytheciiemknmnoaa.Rd
open Go Go.RowKit Go.Proofs.YtheciiemknmnoaaW.PrintWords Go.Proofs.Ytheciiemknmnoaa.PL Go.Proofs.Ytheciiemknmnoaa.Num

theorem alike {α : Type} {a b : List α} {n : Int} (hn : cnt a = n) (hb : cnt b = n) (h : ∀ (x : Nat), (x : Int) < n → a[x]? = b[x]?) : a = b := by
  unfold cnt at *
  refine List.ext_getElem? fun x => ?_
  by_cases e : (x : Int) < n
  · exact h x e
  · rw [List.getElem?_eq_none (by omega), List.getElem?_eq_none (by omega)]
theorem apart {α : Type} {a b : List α} {i : Int} {x y : α} (h1 : a[i.toNat]? = some x) (h2 : b[i.toNat]? = some y) (h : x ≠ y) : ¬ a = b := fun e => by
  rw [e, h2] at h1
  injection h1 with h1
  exact h h1.symm
theorem upto {α : Type} {a b : List α} {i : Int} {x : α} (h0 : 0 ≤ i) (h1 : a[i.toNat]? = some x) (h2 : b[i.toNat]? = some x) (h : ∀ (x : Nat), (x : Int) < i → a[x]? = b[x]?) : ∀ (x : Nat), (x : Int) < i + 1 → a[x]? = b[x]? := fun x hx => by
  by_cases e : (x : Int) = i
  · have : x = i.toNat := by omega
    rw [this, h1, h2]
  · exact h x (by omega)
def keepIntsR (us : List U) (u : U) : Prop := ∃ a b : List Int, cnt a ≤ 1000000 ∧ us = [.s 1 (uis a), .s 1 (uis b)] ∧ u = ub (decide (a = b))
theorem keepInts_ok : SoundF Try.prog 17 keepIntsR := sound [] orc_nil Try.func17 (by kernel_rfl) (by kernel_rfl) fun us u hR => by
  obtain ⟨a, b, hn, rfl, hu⟩ := hR
  obtain ⟨r, hr⟩ : ∃ r, (cnt a).toNat < r := ⟨_, Nat.lt_succ_self _⟩
  refine ⟨r, fun C E hC => ?_⟩
  have hva := fun i (h0 : 0 ≤ i) (h1 : i < cnt a) => nth_map (c := a) (fun x => [ui x]) h0 h1
  have hvb := fun i (h0 : 0 ≤ i) (h1 : i < cnt b) => nth_map (c := b) (fun x => [ui x]) h0 h1
  have hca := cnt_map a fun x => [ui x]
  have hcb := cnt_map b fun x => [ui x]
  have ha0 := cnt0 a
  unfold uis
  generalize a.map (fun x => [ui x]) = xs at *
  generalize b.map (fun x => [ui x]) = ys at *
  cbv
  rcases Decidable.em (cnt a = cnt b) with h1 | h1
  case inr =>
    rw [decide_eq_false (fun e => h1 (by rw [e]))] at hu
    (repeat ((first | refine ln fun _ _ _ => ?_ | refine tt ?_ | refine ff ?_ | refine wr fun _ _ => ?_ | refine wu fun _ _ => ?_ | refine rp fun _ _ _ => ?_ | refine cp fun _ => ?_ | with_reducible refine bq ?_ | refine cl ?_ | refine sd ?_ | refine tt ?_ (by refine ⟨?_, ?_, ?_, ?_, ?_⟩ <;> first | omega | exact True.intro) | refine tt ?_ (by refine ⟨?_, ?_, ?_, ?_⟩ <;> first | omega | exact True.intro) | refine tt ?_ (by refine ⟨?_, ?_, ?_⟩ <;> first | omega | exact True.intro) | refine ff ?_ (by rintro ⟨_, _, _, _, _⟩; omega) | refine ff ?_ (by rintro ⟨_, _, _, _⟩; omega) | refine ff ?_ (by rintro ⟨_, _, _⟩; omega) | intro _ _); cbv))
    exact hu.symm
  (repeat ((first | refine ln fun _ _ _ => ?_ | refine tt ?_ | refine ff ?_ | refine wr fun _ _ => ?_ | refine wu fun _ _ => ?_ | refine rp fun _ _ _ => ?_ | refine cp fun _ => ?_ | with_reducible refine bq ?_ | refine cl ?_ | refine sd ?_ | refine tt ?_ (by refine ⟨?_, ?_, ?_, ?_, ?_⟩ <;> first | omega | exact True.intro) | refine tt ?_ (by refine ⟨?_, ?_, ?_, ?_⟩ <;> first | omega | exact True.intro) | refine tt ?_ (by refine ⟨?_, ?_, ?_⟩ <;> first | omega | exact True.intro) | refine ff ?_ (by rintro ⟨_, _, _, _, _⟩; omega) | refine ff ?_ (by rintro ⟨_, _, _, _⟩; omega) | refine ff ?_ (by rintro ⟨_, _, _⟩; omega) | intro _ _); cbv))
  refine lets [0, 1, 5] ?_
  cbv
  refine loop_inv (fun j a1 h => ∃ i : Int, 0 ≤ i ∧ i ≤ cnt a ∧ j = (cnt a - i).toNat ∧ (∀ (x : Nat), (x : Int) < i → a[x]? = b[x]?) ∧ a1 = [.s 1 xs, .s 1 ys, .lost, .lost, .lost, ui i, .lost, .lost, .lost, .lost, .lost, .lost, .lost, .lost, .lost, .lost, .lost, .lost, .lost, .lost, .lost, .lost, .lost, .lost, .lost, .lost] ∧ h = []) ?_ r (cnt a).toNat _ _ hr ⟨0, by omega, by omega, by omega, fun x hx => absurd hx (by omega), rfl, rfl⟩
  rintro j a1 h K ⟨i, i0, i1, hj, hI, rfl, rfl⟩ hK
  rcases Decidable.em (i < cnt a) with hlt | hlt
  · obtain ⟨x, hx, hx2⟩ := hva i i0 hlt
    obtain ⟨y, hy, hy2⟩ := hvb i i0 (by omega)
    rcases Decidable.em (x = y) with e | e
    · subst e
      have hI := upto i0 hx hy hI
      clear hu
      (
        cbv
        (repeat ((first | refine ln fun _ _ _ => ?_ | refine tt ?_ | refine ff ?_ | refine wr fun _ _ => ?_ | refine wu fun _ _ => ?_ | refine rp fun _ _ _ => ?_ | refine cp fun _ => ?_ | with_reducible refine bq ?_ | refine cl ?_ | refine sd ?_ | refine tt ?_ (by refine ⟨?_, ?_, ?_, ?_, ?_⟩ <;> first | omega | exact True.intro) | refine tt ?_ (by refine ⟨?_, ?_, ?_, ?_⟩ <;> first | omega | exact True.intro) | refine tt ?_ (by refine ⟨?_, ?_, ?_⟩ <;> first | omega | exact True.intro) | refine ff ?_ (by rintro ⟨_, _, _, _, _⟩; omega) | refine ff ?_ (by rintro ⟨_, _, _, _⟩; omega) | refine ff ?_ (by rintro ⟨_, _, _⟩; omega) | intro _ _); cbv))
        refine el ?_ (by omega) hx2
        cbv
        (repeat ((first | refine ln fun _ _ _ => ?_ | refine tt ?_ | refine ff ?_ | refine wr fun _ _ => ?_ | refine wu fun _ _ => ?_ | refine rp fun _ _ _ => ?_ | refine cp fun _ => ?_ | with_reducible refine bq ?_ | refine cl ?_ | refine sd ?_ | refine tt ?_ (by refine ⟨?_, ?_, ?_, ?_, ?_⟩ <;> first | omega | exact True.intro) | refine tt ?_ (by refine ⟨?_, ?_, ?_, ?_⟩ <;> first | omega | exact True.intro) | refine tt ?_ (by refine ⟨?_, ?_, ?_⟩ <;> first | omega | exact True.intro) | refine ff ?_ (by rintro ⟨_, _, _, _, _⟩; omega) | refine ff ?_ (by rintro ⟨_, _, _, _⟩; omega) | refine ff ?_ (by rintro ⟨_, _, _⟩; omega) | intro _ _); cbv))
        refine el ?_ (by omega) hy2
        cbv
        (repeat ((first | refine ln fun _ _ _ => ?_ | refine tt ?_ | refine ff ?_ | refine wr fun _ _ => ?_ | refine wu fun _ _ => ?_ | refine rp fun _ _ _ => ?_ | refine cp fun _ => ?_ | with_reducible refine bq ?_ | refine cl ?_ | refine sd ?_ | refine tt ?_ (by refine ⟨?_, ?_, ?_, ?_, ?_⟩ <;> first | omega | exact True.intro) | refine tt ?_ (by refine ⟨?_, ?_, ?_, ?_⟩ <;> first | omega | exact True.intro) | refine tt ?_ (by refine ⟨?_, ?_, ?_⟩ <;> first | omega | exact True.intro) | refine ff ?_ (by rintro ⟨_, _, _, _, _⟩; omega) | refine ff ?_ (by rintro ⟨_, _, _, _⟩; omega) | refine ff ?_ (by rintro ⟨_, _, _⟩; omega) | intro _ _); cbv))
        rename_i q' hq'
        refine lets [0, 1, 5] ?_
        exact hK (cnt a - (i + 1)).toNat _ _ (by omega) ⟨i + 1, by omega, by omega, rfl, hI, by rw [hq']; rfl, rfl⟩)
    · rw [decide_eq_false (apart hx hy e)] at hu
      clear hI hK
      (
        cbv
        (repeat ((first | refine ln fun _ _ _ => ?_ | refine tt ?_ | refine ff ?_ | refine wr fun _ _ => ?_ | refine wu fun _ _ => ?_ | refine rp fun _ _ _ => ?_ | refine cp fun _ => ?_ | with_reducible refine bq ?_ | refine cl ?_ | refine sd ?_ | refine tt ?_ (by refine ⟨?_, ?_, ?_, ?_, ?_⟩ <;> first | omega | exact True.intro) | refine tt ?_ (by refine ⟨?_, ?_, ?_, ?_⟩ <;> first | omega | exact True.intro) | refine tt ?_ (by refine ⟨?_, ?_, ?_⟩ <;> first | omega | exact True.intro) | refine ff ?_ (by rintro ⟨_, _, _, _, _⟩; omega) | refine ff ?_ (by rintro ⟨_, _, _, _⟩; omega) | refine ff ?_ (by rintro ⟨_, _, _⟩; omega) | intro _ _); cbv))
        refine el ?_ (by omega) hx2
        cbv
        (repeat ((first | refine ln fun _ _ _ => ?_ | refine tt ?_ | refine ff ?_ | refine wr fun _ _ => ?_ | refine wu fun _ _ => ?_ | refine rp fun _ _ _ => ?_ | refine cp fun _ => ?_ | with_reducible refine bq ?_ | refine cl ?_ | refine sd ?_ | refine tt ?_ (by refine ⟨?_, ?_, ?_, ?_, ?_⟩ <;> first | omega | exact True.intro) | refine tt ?_ (by refine ⟨?_, ?_, ?_, ?_⟩ <;> first | omega | exact True.intro) | refine tt ?_ (by refine ⟨?_, ?_, ?_⟩ <;> first | omega | exact True.intro) | refine ff ?_ (by rintro ⟨_, _, _, _, _⟩; omega) | refine ff ?_ (by rintro ⟨_, _, _, _⟩; omega) | refine ff ?_ (by rintro ⟨_, _, _⟩; omega) | intro _ _); cbv))
        refine el ?_ (by omega) hy2
        cbv
        (repeat ((first | refine ln fun _ _ _ => ?_ | refine tt ?_ | refine ff ?_ | refine wr fun _ _ => ?_ | refine wu fun _ _ => ?_ | refine rp fun _ _ _ => ?_ | refine cp fun _ => ?_ | with_reducible refine bq ?_ | refine cl ?_ | refine sd ?_ | refine tt ?_ (by refine ⟨?_, ?_, ?_, ?_, ?_⟩ <;> first | omega | exact True.intro) | refine tt ?_ (by refine ⟨?_, ?_, ?_, ?_⟩ <;> first | omega | exact True.intro) | refine tt ?_ (by refine ⟨?_, ?_, ?_⟩ <;> first | omega | exact True.intro) | refine ff ?_ (by rintro ⟨_, _, _, _, _⟩; omega) | refine ff ?_ (by rintro ⟨_, _, _, _⟩; omega) | refine ff ?_ (by rintro ⟨_, _, _⟩; omega) | intro _ _); cbv))
        exact hu.symm)
  · rw [decide_eq_true (alike rfl h1.symm fun x hx => hI x (by omega))] at hu
    clear hI hK
    cbv
    (repeat ((first | refine ln fun _ _ _ => ?_ | refine tt ?_ | refine ff ?_ | refine wr fun _ _ => ?_ | refine wu fun _ _ => ?_ | refine rp fun _ _ _ => ?_ | refine cp fun _ => ?_ | with_reducible refine bq ?_ | refine cl ?_ | refine sd ?_ | refine tt ?_ (by refine ⟨?_, ?_, ?_, ?_, ?_⟩ <;> first | omega | exact True.intro) | refine tt ?_ (by refine ⟨?_, ?_, ?_, ?_⟩ <;> first | omega | exact True.intro) | refine tt ?_ (by refine ⟨?_, ?_, ?_⟩ <;> first | omega | exact True.intro) | refine ff ?_ (by rintro ⟨_, _, _, _, _⟩; omega) | refine ff ?_ (by rintro ⟨_, _, _, _⟩; omega) | refine ff ?_ (by rintro ⟨_, _, _⟩; omega) | intro _ _); cbv))
    exact hu.symm
def keepBoolsR (us : List U) (u : U) : Prop := ∃ a b : List Bool, cnt a ≤ 1000000 ∧ us = [.s 1 (uB a), .s 1 (uB b)] ∧ u = ub (decide (a = b))
theorem keepBools_ok : SoundF Try.prog 18 keepBoolsR := sound [] orc_nil Try.func18 (by kernel_rfl) (by kernel_rfl) fun us u hR => by
  obtain ⟨a, b, hn, rfl, hu⟩ := hR
  obtain ⟨r, hr⟩ : ∃ r, (cnt a).toNat < r := ⟨_, Nat.lt_succ_self _⟩
  refine ⟨r, fun C E hC => ?_⟩
  have hva := fun i (h0 : 0 ≤ i) (h1 : i < cnt a) => nth_map (c := a) (fun x => [ub x]) h0 h1
  have hvb := fun i (h0 : 0 ≤ i) (h1 : i < cnt b) => nth_map (c := b) (fun x => [ub x]) h0 h1
  have hca := cnt_map a fun x => [ub x]
  have hcb := cnt_map b fun x => [ub x]
  have ha0 := cnt0 a
  unfold uB
  generalize a.map (fun x => [ub x]) = xs at *
  generalize b.map (fun x => [ub x]) = ys at *
  cbv
  rcases Decidable.em (cnt a = cnt b) with h1 | h1
  case inr =>
    rw [decide_eq_false (fun e => h1 (by rw [e]))] at hu
    (repeat ((first | refine ln fun _ _ _ => ?_ | refine tt ?_ | refine ff ?_ | refine wr fun _ _ => ?_ | refine wu fun _ _ => ?_ | refine rp fun _ _ _ => ?_ | refine cp fun _ => ?_ | with_reducible refine bq ?_ | refine cl ?_ | refine sd ?_ | refine tt ?_ (by refine ⟨?_, ?_, ?_, ?_, ?_⟩ <;> first | omega | exact True.intro) | refine tt ?_ (by refine ⟨?_, ?_, ?_, ?_⟩ <;> first | omega | exact True.intro) | refine tt ?_ (by refine ⟨?_, ?_, ?_⟩ <;> first | omega | exact True.intro) | refine ff ?_ (by rintro ⟨_, _, _, _, _⟩; omega) | refine ff ?_ (by rintro ⟨_, _, _, _⟩; omega) | refine ff ?_ (by rintro ⟨_, _, _⟩; omega) | intro _ _); cbv))
    exact hu.symm
  (repeat ((first | refine ln fun _ _ _ => ?_ | refine tt ?_ | refine ff ?_ | refine wr fun _ _ => ?_ | refine wu fun _ _ => ?_ | refine rp fun _ _ _ => ?_ | refine cp fun _ => ?_ | with_reducible refine bq ?_ | refine cl ?_ | refine sd ?_ | refine tt ?_ (by refine ⟨?_, ?_, ?_, ?_, ?_⟩ <;> first | omega | exact True.intro) | refine tt ?_ (by refine ⟨?_, ?_, ?_, ?_⟩ <;> first | omega | exact True.intro) | refine tt ?_ (by refine ⟨?_, ?_, ?_⟩ <;> first | omega | exact True.intro) | refine ff ?_ (by rintro ⟨_, _, _, _, _⟩; omega) | refine ff ?_ (by rintro ⟨_, _, _, _⟩; omega) | refine ff ?_ (by rintro ⟨_, _, _⟩; omega) | intro _ _); cbv))
  refine lets [0, 1, 5] ?_
  cbv
  refine loop_inv (fun j a1 h => ∃ i : Int, 0 ≤ i ∧ i ≤ cnt a ∧ j = (cnt a - i).toNat ∧ (∀ (x : Nat), (x : Int) < i → a[x]? = b[x]?) ∧ a1 = [.s 1 xs, .s 1 ys, .lost, .lost, .lost, ui i, .lost, .lost, .lost, .lost, .lost, .lost, .lost, .lost, .lost, .lost, .lost, .lost, .lost, .lost, .lost, .lost, .lost, .lost, .lost, .lost] ∧ h = []) ?_ r (cnt a).toNat _ _ hr ⟨0, by omega, by omega, by omega, fun x hx => absurd hx (by omega), rfl, rfl⟩
  rintro j a1 h K ⟨i, i0, i1, hj, hI, rfl, rfl⟩ hK
  rcases Decidable.em (i < cnt a) with hlt | hlt
  · obtain ⟨x, hx, hx2⟩ := hva i i0 hlt
    obtain ⟨y, hy, hy2⟩ := hvb i i0 (by omega)
    rcases Decidable.em (x = y) with e | e
    · subst e
      have hI := upto i0 hx hy hI
      clear hu
      cases x <;> (
        cbv
        (repeat ((first | refine ln fun _ _ _ => ?_ | refine tt ?_ | refine ff ?_ | refine wr fun _ _ => ?_ | refine wu fun _ _ => ?_ | refine rp fun _ _ _ => ?_ | refine cp fun _ => ?_ | with_reducible refine bq ?_ | refine cl ?_ | refine sd ?_ | refine tt ?_ (by refine ⟨?_, ?_, ?_, ?_, ?_⟩ <;> first | omega | exact True.intro) | refine tt ?_ (by refine ⟨?_, ?_, ?_, ?_⟩ <;> first | omega | exact True.intro) | refine tt ?_ (by refine ⟨?_, ?_, ?_⟩ <;> first | omega | exact True.intro) | refine ff ?_ (by rintro ⟨_, _, _, _, _⟩; omega) | refine ff ?_ (by rintro ⟨_, _, _, _⟩; omega) | refine ff ?_ (by rintro ⟨_, _, _⟩; omega) | intro _ _); cbv))
        refine el ?_ (by omega) hx2
        cbv
        (repeat ((first | refine ln fun _ _ _ => ?_ | refine tt ?_ | refine ff ?_ | refine wr fun _ _ => ?_ | refine wu fun _ _ => ?_ | refine rp fun _ _ _ => ?_ | refine cp fun _ => ?_ | with_reducible refine bq ?_ | refine cl ?_ | refine sd ?_ | refine tt ?_ (by refine ⟨?_, ?_, ?_, ?_, ?_⟩ <;> first | omega | exact True.intro) | refine tt ?_ (by refine ⟨?_, ?_, ?_, ?_⟩ <;> first | omega | exact True.intro) | refine tt ?_ (by refine ⟨?_, ?_, ?_⟩ <;> first | omega | exact True.intro) | refine ff ?_ (by rintro ⟨_, _, _, _, _⟩; omega) | refine ff ?_ (by rintro ⟨_, _, _, _⟩; omega) | refine ff ?_ (by rintro ⟨_, _, _⟩; omega) | intro _ _); cbv))
        refine el ?_ (by omega) hy2
        cbv
        (repeat ((first | refine ln fun _ _ _ => ?_ | refine tt ?_ | refine ff ?_ | refine wr fun _ _ => ?_ | refine wu fun _ _ => ?_ | refine rp fun _ _ _ => ?_ | refine cp fun _ => ?_ | with_reducible refine bq ?_ | refine cl ?_ | refine sd ?_ | refine tt ?_ (by refine ⟨?_, ?_, ?_, ?_, ?_⟩ <;> first | omega | exact True.intro) | refine tt ?_ (by refine ⟨?_, ?_, ?_, ?_⟩ <;> first | omega | exact True.intro) | refine tt ?_ (by refine ⟨?_, ?_, ?_⟩ <;> first | omega | exact True.intro) | refine ff ?_ (by rintro ⟨_, _, _, _, _⟩; omega) | refine ff ?_ (by rintro ⟨_, _, _, _⟩; omega) | refine ff ?_ (by rintro ⟨_, _, _⟩; omega) | intro _ _); cbv))
        rename_i q' hq'
        refine lets [0, 1, 5] ?_
        exact hK (cnt a - (i + 1)).toNat _ _ (by omega) ⟨i + 1, by omega, by omega, rfl, hI, by rw [hq']; rfl, rfl⟩)
    · rw [decide_eq_false (apart hx hy e)] at hu
      clear hI hK
      cases x <;> cases y <;> first | exact absurd rfl e | (
        cbv
        (repeat ((first | refine ln fun _ _ _ => ?_ | refine tt ?_ | refine ff ?_ | refine wr fun _ _ => ?_ | refine wu fun _ _ => ?_ | refine rp fun _ _ _ => ?_ | refine cp fun _ => ?_ | with_reducible refine bq ?_ | refine cl ?_ | refine sd ?_ | refine tt ?_ (by refine ⟨?_, ?_, ?_, ?_, ?_⟩ <;> first | omega | exact True.intro) | refine tt ?_ (by refine ⟨?_, ?_, ?_, ?_⟩ <;> first | omega | exact True.intro) | refine tt ?_ (by refine ⟨?_, ?_, ?_⟩ <;> first | omega | exact True.intro) | refine ff ?_ (by rintro ⟨_, _, _, _, _⟩; omega) | refine ff ?_ (by rintro ⟨_, _, _, _⟩; omega) | refine ff ?_ (by rintro ⟨_, _, _⟩; omega) | intro _ _); cbv))
        refine el ?_ (by omega) hx2
        cbv
        (repeat ((first | refine ln fun _ _ _ => ?_ | refine tt ?_ | refine ff ?_ | refine wr fun _ _ => ?_ | refine wu fun _ _ => ?_ | refine rp fun _ _ _ => ?_ | refine cp fun _ => ?_ | with_reducible refine bq ?_ | refine cl ?_ | refine sd ?_ | refine tt ?_ (by refine ⟨?_, ?_, ?_, ?_, ?_⟩ <;> first | omega | exact True.intro) | refine tt ?_ (by refine ⟨?_, ?_, ?_, ?_⟩ <;> first | omega | exact True.intro) | refine tt ?_ (by refine ⟨?_, ?_, ?_⟩ <;> first | omega | exact True.intro) | refine ff ?_ (by rintro ⟨_, _, _, _, _⟩; omega) | refine ff ?_ (by rintro ⟨_, _, _, _⟩; omega) | refine ff ?_ (by rintro ⟨_, _, _⟩; omega) | intro _ _); cbv))
        refine el ?_ (by omega) hy2
        cbv
        (repeat ((first | refine ln fun _ _ _ => ?_ | refine tt ?_ | refine ff ?_ | refine wr fun _ _ => ?_ | refine wu fun _ _ => ?_ | refine rp fun _ _ _ => ?_ | refine cp fun _ => ?_ | with_reducible refine bq ?_ | refine cl ?_ | refine sd ?_ | refine tt ?_ (by refine ⟨?_, ?_, ?_, ?_, ?_⟩ <;> first | omega | exact True.intro) | refine tt ?_ (by refine ⟨?_, ?_, ?_, ?_⟩ <;> first | omega | exact True.intro) | refine tt ?_ (by refine ⟨?_, ?_, ?_⟩ <;> first | omega | exact True.intro) | refine ff ?_ (by rintro ⟨_, _, _, _, _⟩; omega) | refine ff ?_ (by rintro ⟨_, _, _, _⟩; omega) | refine ff ?_ (by rintro ⟨_, _, _⟩; omega) | intro _ _); cbv))
        exact hu.symm)
  · rw [decide_eq_true (alike rfl h1.symm fun x hx => hI x (by omega))] at hu
    clear hI hK
    cbv
    (repeat ((first | refine ln fun _ _ _ => ?_ | refine tt ?_ | refine ff ?_ | refine wr fun _ _ => ?_ | refine wu fun _ _ => ?_ | refine rp fun _ _ _ => ?_ | refine cp fun _ => ?_ | with_reducible refine bq ?_ | refine cl ?_ | refine sd ?_ | refine tt ?_ (by refine ⟨?_, ?_, ?_, ?_, ?_⟩ <;> first | omega | exact True.intro) | refine tt ?_ (by refine ⟨?_, ?_, ?_, ?_⟩ <;> first | omega | exact True.intro) | refine tt ?_ (by refine ⟨?_, ?_, ?_⟩ <;> first | omega | exact True.intro) | refine ff ?_ (by rintro ⟨_, _, _, _, _⟩; omega) | refine ff ?_ (by rintro ⟨_, _, _, _⟩; omega) | refine ff ?_ (by rintro ⟨_, _, _⟩; omega) | intro _ _); cbv))
    exact hu.symm
end Go.Proofs.Ytheciiemknmnoaa.Rd
end
section
set_option linter.unusedVariables false
set_option linter.unusedSimpArgs false
set_option maxRecDepth 100000
set_option maxHeartbeats 4000000
namespace Go.Proofs.Ytheciiemknmnoaa.Rd
open Go Go.RowKit Go.Proofs.YtheciiemknmnoaaW.PrintWords Go.Proofs.Ytheciiemknmnoaa.PL Go.Proofs.Ytheciiemknmnoaa.Num

theorem keepNR {a b : List Int} (h : cnt a ≤ 1000000) : steelyardkeep_Nat.R [.l a, .l b] (ub (decide (a = b))) := by obtain ⟨k, hk⟩ := (same_tells a b (by unfold cnt at h; omega)).rounds; exact ⟨k, _, _, _, rfl, hk, rfl⟩
def keepIR (us : List U) (u : U) : Prop := ∃ s1 l1 s2 l2, cnt l1 ≤ 1000000 ∧ us = [.agg [ub s1, .l l1], .agg [ub s2, .l l2]] ∧ u = ub (decide ((s1, l1) = (s2, l2)))
theorem keepI_ok : SoundF Try.prog 30 keepIR := sound [(31, steelyardkeep_Nat.R)] (orc_cons steelyardkeep_Nat.sound orc_nil) Try.func30 (by kernel_rfl) (by kernel_rfl) fun us u hR => ⟨0, fun C E hC => by
  obtain ⟨s1, l1, s2, l2, h, rfl, hu⟩ := hR
  have k := hC 31 steelyardkeep_Nat.R (by simp) _ _ (keepNR (b := l2) h)
  by_cases h1 : s1 = s2
  · rw [show decide ((s1, l1) = (s2, l2)) = decide (l1 = l2) by rw [decide_eq_decide]; simp [h1]] at hu
    generalize decide (l1 = l2) = t at *
    cases s1 <;> cases s2 <;> first | exact absurd h1 (by decide) | (cbv; (repeat ((first | refine ln fun _ _ _ => ?_ | refine tt ?_ | refine ff ?_ | refine wr fun _ _ => ?_ | refine wu fun _ _ => ?_ | refine rp fun _ _ _ => ?_ | refine cp fun _ => ?_ | with_reducible refine bq ?_ | refine cl ?_ | refine sd ?_ | refine tt ?_ (by refine ⟨?_, ?_, ?_, ?_, ?_⟩ <;> first | omega | exact True.intro) | refine tt ?_ (by refine ⟨?_, ?_, ?_, ?_⟩ <;> first | omega | exact True.intro) | refine tt ?_ (by refine ⟨?_, ?_, ?_⟩ <;> first | omega | exact True.intro) | refine ff ?_ (by rintro ⟨_, _, _, _, _⟩; omega) | refine ff ?_ (by rintro ⟨_, _, _, _⟩; omega) | refine ff ?_ (by rintro ⟨_, _, _⟩; omega) | intro _ _); cbv)); exact hu.symm)
  · rw [decide_eq_false (show ¬ (s1, l1) = (s2, l2) by simp [h1])] at hu
    cases s1 <;> cases s2 <;> first | exact absurd rfl h1 | (cbv; (repeat ((first | refine ln fun _ _ _ => ?_ | refine tt ?_ | refine ff ?_ | refine wr fun _ _ => ?_ | refine wu fun _ _ => ?_ | refine rp fun _ _ _ => ?_ | refine cp fun _ => ?_ | with_reducible refine bq ?_ | refine cl ?_ | refine sd ?_ | refine tt ?_ (by refine ⟨?_, ?_, ?_, ?_, ?_⟩ <;> first | omega | exact True.intro) | refine tt ?_ (by refine ⟨?_, ?_, ?_, ?_⟩ <;> first | omega | exact True.intro) | refine tt ?_ (by refine ⟨?_, ?_, ?_⟩ <;> first | omega | exact True.intro) | refine ff ?_ (by rintro ⟨_, _, _, _, _⟩; omega) | refine ff ?_ (by rintro ⟨_, _, _, _⟩; omega) | refine ff ?_ (by rintro ⟨_, _, _⟩; omega) | intro _ _); cbv)); exact hu.symm)⟩
def keepR (us : List U) (u : U) : Prop := ∃ a b : R3, cnt a.2.1 ≤ 1000000 ∧ cnt a.2.2 ≤ 1000000 ∧ us = [uR a, uR b] ∧ u = ub (decide (a = b))
theorem keep_ok : SoundF Try.prog 11 keepR := sound [(30, keepIR), (31, steelyardkeep_Nat.R)] (orc_cons keepI_ok (orc_cons steelyardkeep_Nat.sound orc_nil)) Try.func11 (by kernel_rfl) (by kernel_rfl) fun us u hR => ⟨0, fun C E hC => by
  obtain ⟨⟨s1, l1, b1⟩, ⟨s2, l2, b2⟩, h, h', rfl, hu⟩ := hR
  have k1 := hC 30 keepIR (by simp) _ _ ⟨s1, l1, s2, l2, h, rfl, rfl⟩
  have k2 := hC 31 steelyardkeep_Nat.R (by simp) _ _ (keepNR (b := b2) h')
  have e : decide ((s1, l1, b1) = (s2, l2, b2)) = (decide ((s1, l1) = (s2, l2)) && decide (b1 = b2)) := by rw [Bool.eq_iff_iff]; simp [and_assoc]
  rw [e] at hu
  clear e h h'
  generalize decide ((s1, l1) = (s2, l2)) = t1 at *
  generalize decide (b1 = b2) = t2 at *
  cases t1 <;> cases t2 <;> cbv <;> (repeat ((first | refine ln fun _ _ _ => ?_ | refine tt ?_ | refine ff ?_ | refine wr fun _ _ => ?_ | refine wu fun _ _ => ?_ | refine rp fun _ _ _ => ?_ | refine cp fun _ => ?_ | with_reducible refine bq ?_ | refine cl ?_ | refine sd ?_ | refine tt ?_ (by refine ⟨?_, ?_, ?_, ?_, ?_⟩ <;> first | omega | exact True.intro) | refine tt ?_ (by refine ⟨?_, ?_, ?_, ?_⟩ <;> first | omega | exact True.intro) | refine tt ?_ (by refine ⟨?_, ?_, ?_⟩ <;> first | omega | exact True.intro) | refine ff ?_ (by rintro ⟨_, _, _, _, _⟩; omega) | refine ff ?_ (by rintro ⟨_, _, _, _⟩; omega) | refine ff ?_ (by rintro ⟨_, _, _⟩; omega) | intro _ _); cbv)) <;> exact hu.symm⟩
end Go.Proofs.Ytheciiemknmnoaa.Rd
end
section
set_option linter.unusedVariables false
set_option linter.unusedSimpArgs false
set_option maxRecDepth 100000
set_option maxHeartbeats 4000000
namespace Go.Proofs.Ytheciiemknmnoaa.Rd
open Go Go.RowKit Go.Proofs.YtheciiemknmnoaaW.PrintWords Go.Proofs.Ytheciiemknmnoaa.PL Go.Proofs.Ytheciiemknmnoaa.Num

theorem trim1R {l : List Int} (hl : Limbs l) (hs : cnt l ≤ 1000000) : steelyardref01_Trim.R [.l l] (.l (N (V l))) := by obtain ⟨k, hk⟩ := (trim1_tells hl (by unfold cnt at hs; omega)).rounds; exact ⟨k, _, _, rfl, hk, rfl⟩
theorem of2R {a b : List Int} (ha : Limbs a) (hb : Limbs b) (h1 : cnt a ≤ 1000000) (h2 : cnt b ≤ 1000000) : steelyardref02_Of.R [.l a, .l b] (.l (N (V a * V b))) := by obtain ⟨k, hk⟩ := (mul2_tells ha hb (by unfold cnt at h1; omega) (by unfold cnt at h2; omega)).rounds; exact ⟨k, _, _, _, rfl, hk, rfl⟩
theorem gcd3R {a b : List Int} (ha : Limbs a) (hb : Limbs b) (h1 : cnt a ≤ 1000000) (h2 : cnt b ≤ 1000000) : steelyardref03_Gcd.R [.l a, .l b] (.l (N (Nat.gcd (V a) (V b)))) := by obtain ⟨k, hk⟩ := (gcd3_tells ha hb (by unfold cnt at h1; omega) (by unfold cnt at h2; omega)).rounds; exact ⟨k, _, _, _, rfl, hk, rfl⟩
theorem rem3R {a b : List Int} (ha : Limbs a) (hb : Limbs b) (h1 : cnt a ≤ 1000000) (h2 : cnt b ≤ 1000000) (hz : V b ≠ 0) : steelyardref03_Rem.R [.l a, .l b] (.agg [.l (N (V a / V b)), .l (N (V a % V b)), ub true]) := by
  obtain ⟨k, hk⟩ := (rem3_tells ha hb (by unfold cnt at h1; omega) (by unfold cnt at h2; omega)).rounds
  rw [if_neg hz] at hk
  exact ⟨k, _, _, _, _, _, rfl, hk, rfl⟩
theorem of1R {r : Int} (h0 : 0 ≤ r) (h1 : r < 18446744073709551616) : steelyardref01_Of.R [.v (.int .u64 r)] (.l (N r.toNat)) := by obtain ⟨k, hk⟩ := (of1_tells h0 h1).rounds; exact ⟨k, _, _, rfl, hk, rfl⟩
def make6R (us : List U) (u : U) : Prop := ∃ s l, Limbs l ∧ cnt l ≤ 1000000 ∧ us = [ub s, .l l] ∧ u = uI (Z s l)
theorem make6_ok : SoundF Try.prog 60 make6R := sound [(32, steelyardref01_Trim.R)] (orc_cons steelyardref01_Trim.sound orc_nil) Try.func60 (by kernel_rfl) (by kernel_rfl) fun us u hR => ⟨0, fun C E hC => by
  obtain ⟨s, l, hl, hs, rfl, hu⟩ := hR
  rw [uI_Z] at hu
  obtain ⟨l', k1, el⟩ := tN (hC 32 steelyardref01_Trim.R (by simp) _ _ (trim1R hl hs))
  rw [← el] at hu
  clear el
  have g := cnt0 l'
  by_cases h0 : 0 < cnt l' <;> cases s <;> cbv <;> (repeat ((first | refine ln fun _ _ _ => ?_ | refine tt ?_ | refine ff ?_ | refine wr fun _ _ => ?_ | refine wu fun _ _ => ?_ | refine rp fun _ _ _ => ?_ | refine cp fun _ => ?_ | with_reducible refine bq ?_ | refine cl ?_ | refine sd ?_ | refine tt ?_ (by refine ⟨?_, ?_, ?_, ?_, ?_⟩ <;> first | omega | exact True.intro) | refine tt ?_ (by refine ⟨?_, ?_, ?_, ?_⟩ <;> first | omega | exact True.intro) | refine tt ?_ (by refine ⟨?_, ?_, ?_⟩ <;> first | omega | exact True.intro) | refine ff ?_ (by rintro ⟨_, _, _, _, _⟩; omega) | refine ff ?_ (by rintro ⟨_, _, _, _⟩; omega) | refine ff ?_ (by rintro ⟨_, _, _⟩; omega) | intro _ _); cbv)) <;> (rw [hu]; simp [h0])⟩
def trim6R (us : List U) (u : U) : Prop := ∃ s l, Limbs l ∧ cnt l ≤ 1000000 ∧ us = [.agg [ub s, .l l]] ∧ u = uI (Z s l)
theorem trim6_ok : SoundF Try.prog 95 trim6R := sound [(60, make6R)] (orc_cons make6_ok orc_nil) Try.func95 (by kernel_rfl) (by kernel_rfl) fun us u hR => ⟨0, fun C E hC => by
  obtain ⟨s, l, hl, hs, rfl, hu⟩ := hR
  obtain ⟨s1, l1, k1, e1, e2⟩ := tI (hC 60 make6R (by simp) _ _ ⟨s, l, hl, hs, rfl, rfl⟩)
  cbv
  (repeat ((first | refine ln fun _ _ _ => ?_ | refine tt ?_ | refine ff ?_ | refine wr fun _ _ => ?_ | refine wu fun _ _ => ?_ | refine rp fun _ _ _ => ?_ | refine cp fun _ => ?_ | with_reducible refine bq ?_ | refine cl ?_ | refine sd ?_ | refine tt ?_ (by refine ⟨?_, ?_, ?_, ?_, ?_⟩ <;> first | omega | exact True.intro) | refine tt ?_ (by refine ⟨?_, ?_, ?_, ?_⟩ <;> first | omega | exact True.intro) | refine tt ?_ (by refine ⟨?_, ?_, ?_⟩ <;> first | omega | exact True.intro) | refine ff ?_ (by rintro ⟨_, _, _, _, _⟩; omega) | refine ff ?_ (by rintro ⟨_, _, _, _⟩; omega) | refine ff ?_ (by rintro ⟨_, _, _⟩; omega) | intro _ _); cbv))
  rw [hu, e1, e2]; rfl⟩
def mul6R (us : List U) (u : U) : Prop := ∃ s1 l1 s2 l2, Limbs l1 ∧ Limbs l2 ∧ cnt l1 ≤ 100000 ∧ cnt l2 ≤ 100000 ∧ us = [.agg [ub s1, .l l1], .agg [ub s2, .l l2]] ∧ u = uI (Z s1 l1 * Z s2 l2)
theorem mul6_ok : SoundF Try.prog 81 mul6R := sound [(60, make6R), (95, trim6R), (82, steelyardref02_Of.R)] (orc_cons make6_ok (orc_cons trim6_ok (orc_cons steelyardref02_Of.sound orc_nil))) Try.func81 (by kernel_rfl) (by kernel_rfl) fun us u hR => ⟨0, fun C E hC => by
  obtain ⟨s1, l1, s2, l2, h1, h2, c1, c2, rfl, hu⟩ := hR
  obtain ⟨t1, m1, k1, e1, f1⟩ := tI (hC 95 trim6R (by simp) _ _ ⟨s1, l1, h1, by omega, rfl, rfl⟩)
  obtain ⟨t2, m2, k2, e2, f2⟩ := tI (hC 95 trim6R (by simp) _ _ ⟨s2, l2, h2, by omega, rfl, rfl⟩)
  have c3 := cnt_mul h1 h2
  have sm := sign_mul (Z s1 l1) (Z s2 l2)
  rw [← e1, ← e2, Z_abs, Z_abs] at sm
  have k3 := hC 82 steelyardref02_Of.R (by simp) _ _ (of2R h1 h2 (by omega) (by omega))
  have k4 := hC 60 make6R (by simp) _ _ ⟨t1 != t2, N (V l1 * V l2), N_limbs _, by omega, rfl, rfl⟩
  rw [sm, ← hu] at k4
  obtain ⟨s4, l4, hu'⟩ : ∃ s l, u = .agg [ub s, .l l] := ⟨_, _, hu⟩
  rw [hu'] at k4
  clear hu sm e1 e2 f1 f2 c3
  generalize N (V l1 * V l2) = l3 at *
  cases t1 <;> cases t2 <;> cbv <;> (repeat ((first | refine ln fun _ _ _ => ?_ | refine tt ?_ | refine ff ?_ | refine wr fun _ _ => ?_ | refine wu fun _ _ => ?_ | refine rp fun _ _ _ => ?_ | refine cp fun _ => ?_ | with_reducible refine bq ?_ | refine cl ?_ | refine sd ?_ | refine tt ?_ (by refine ⟨?_, ?_, ?_, ?_, ?_⟩ <;> first | omega | exact True.intro) | refine tt ?_ (by refine ⟨?_, ?_, ?_, ?_⟩ <;> first | omega | exact True.intro) | refine tt ?_ (by refine ⟨?_, ?_, ?_⟩ <;> first | omega | exact True.intro) | refine ff ?_ (by rintro ⟨_, _, _, _, _⟩; omega) | refine ff ?_ (by rintro ⟨_, _, _, _⟩; omega) | refine ff ?_ (by rintro ⟨_, _, _⟩; omega) | intro _ _); cbv)) <;> exact hu'.symm⟩
def of6R (us : List U) (u : U) : Prop := ∃ v : Int, -9223372036854775808 ≤ v ∧ v ≤ 9223372036854775807 ∧ us = [ui v] ∧ u = uI v
theorem of6_ok : SoundF Try.prog 61 of6R := sound [(60, make6R), (83, steelyardref01_Of.R)] (orc_cons make6_ok (orc_cons steelyardref01_Of.sound orc_nil)) Try.func61 (by kernel_rfl) (by kernel_rfl) fun us u hR => ⟨0, fun C E hC => by
  obtain ⟨v, h0, h1, rfl, hu⟩ := hR
  have hl : len v.natAbs ≤ 2 := len_le.2 (by omega)
  have k1 : ∀ r : Int, 0 ≤ r → (r = v ∨ r = -v) → C 83 [.v (.int .u64 r)] (.l (N v.natAbs)) := fun r g0 g1 => by
    have := hC 83 steelyardref01_Of.R (by simp) _ _ (of1R (r := r) (by omega) (by omega))
    rwa [show r.toNat = v.natAbs by omega] at this
  have k2 := hC 60 make6R (by simp) _ _ ⟨decide (v < 0), N v.natAbs, N_limbs _, by rw [cnt_N]; omega, rfl, rfl⟩
  rw [show Z (decide (v < 0)) (N v.natAbs) = v from Z_I v, ← hu] at k2
  obtain ⟨s4, l4, hu'⟩ : ∃ s l, u = .agg [ub s, .l l] := ⟨_, _, hu⟩
  rw [hu'] at k2
  generalize N v.natAbs = l at *
  by_cases h : v < 0
  · rw [decide_eq_true h] at k2
    cbv
    refine tt ?_
    cbv
    refine wr fun r1 q1 => ?_
    cbv
    refine wr fun r2 q2 => ?_
    cbv
    refine wu fun r3 q3 => ?_
    cbv
    refine wu fun r4 q4 => ?_
    cbv
    refine cl ?_ (k1 r4 (by omega) (by omega))
    cbv
    (repeat ((first | refine ln fun _ _ _ => ?_ | refine tt ?_ | refine ff ?_ | refine wr fun _ _ => ?_ | refine wu fun _ _ => ?_ | refine rp fun _ _ _ => ?_ | refine cp fun _ => ?_ | with_reducible refine bq ?_ | refine cl ?_ | refine sd ?_ | refine tt ?_ (by refine ⟨?_, ?_, ?_, ?_, ?_⟩ <;> first | omega | exact True.intro) | refine tt ?_ (by refine ⟨?_, ?_, ?_, ?_⟩ <;> first | omega | exact True.intro) | refine tt ?_ (by refine ⟨?_, ?_, ?_⟩ <;> first | omega | exact True.intro) | refine ff ?_ (by rintro ⟨_, _, _, _, _⟩; omega) | refine ff ?_ (by rintro ⟨_, _, _, _⟩; omega) | refine ff ?_ (by rintro ⟨_, _, _⟩; omega) | intro _ _); cbv))
    exact hu'.symm
  · rw [decide_eq_false h] at k2
    cbv
    refine ff ?_
    cbv
    refine wu fun r1 q1 => ?_
    cbv
    refine cl ?_ (k1 r1 (by omega) (by omega))
    cbv
    (repeat ((first | refine ln fun _ _ _ => ?_ | refine tt ?_ | refine ff ?_ | refine wr fun _ _ => ?_ | refine wu fun _ _ => ?_ | refine rp fun _ _ _ => ?_ | refine cp fun _ => ?_ | with_reducible refine bq ?_ | refine cl ?_ | refine sd ?_ | refine tt ?_ (by refine ⟨?_, ?_, ?_, ?_, ?_⟩ <;> first | omega | exact True.intro) | refine tt ?_ (by refine ⟨?_, ?_, ?_, ?_⟩ <;> first | omega | exact True.intro) | refine tt ?_ (by refine ⟨?_, ?_, ?_⟩ <;> first | omega | exact True.intro) | refine ff ?_ (by rintro ⟨_, _, _, _, _⟩; omega) | refine ff ?_ (by rintro ⟨_, _, _, _⟩; omega) | refine ff ?_ (by rintro ⟨_, _, _⟩; omega) | intro _ _); cbv))
    exact hu'.symm⟩
end Go.Proofs.Ytheciiemknmnoaa.Rd
end
section
set_option linter.unusedVariables false
set_option linter.unusedSimpArgs false
set_option maxRecDepth 100000
set_option maxHeartbeats 4000000
namespace Go.Proofs.Ytheciiemknmnoaa.Rd
open Go Go.RowKit Go.Proofs.YtheciiemknmnoaaW.PrintWords Go.Proofs.Ytheciiemknmnoaa.PL Go.Proofs.Ytheciiemknmnoaa.Num

theorem limb1 {g : Nat} (h : len g = 1) : N g = [(g : Int)] := by
  obtain ⟨y, hy⟩ := List.length_eq_one_iff.1 (show (N g).length = 1 by rw [N_length]; exact h)
  have e : rd (N g) 0 = (g : Int) := by
    have h2 := rd_V (N_limbs g) 0
    have h3 := rd_nonneg (N_limbs g) ((0 : Nat) : Int)
    have h4 := len_le.1 (Nat.le_of_eq h)
    rw [V_N, Nat.pow_zero, Nat.div_one] at h2
    rw [Nat.pow_one] at h4
    rw [Nat.mod_eq_of_lt h4] at h2
    have : rd (N g) 0 = rd (N g) ((0 : Nat) : Int) := rfl
    omega
  rw [hy] at e ⊢
  rw [← e]; rfl
theorem good7_ok : SoundF Try.prog 4 goodR := sound [(12, steelyardref07_trimmed.R), (13, steelyardref03_Gcd.R)] (orc_cons steelyardref07_trimmed.sound (orc_cons steelyardref03_Gcd.sound orc_nil)) Try.func4 (by kernel_rfl) (by kernel_rfl) fun us u hR => ⟨0, fun C E hC => by
  obtain ⟨⟨s, l, b⟩, ⟨hl, hb, hsl, hsb⟩, rfl, hu⟩ := hR
  have hl : Limbs l := hl
  have hb : Limbs b := hb
  have k1 := hC 12 steelyardref07_trimmed.R (by simp) [.l l] _ ⟨_, _, rfl, trimmed7_tells hl hsl, rfl⟩
  have k2 := hC 12 steelyardref07_trimmed.R (by simp) [.l b] _ ⟨_, _, rfl, trimmed7_tells hb hsb, rfl⟩
  clear hsl hsb
  have g1 := cnt0 l
  have g2 := cnt0 b
  unfold goodB at hu
  dsimp only at hu
  have e1 : (decide (b.length ≠ 0)) = decide (cnt b ≠ 0) := by rw [decide_eq_decide]; unfold cnt; omega
  have e2 : (decide (b.length ≤ 64)) = decide (cnt b ≤ 64) := by rw [decide_eq_decide]; unfold cnt; omega
  have e3 : (decide (l.length ≤ 64)) = decide (cnt l ≤ 64) := by rw [decide_eq_decide]; unfold cnt; omega
  have e4 : (decide (l.length = 0)) = decide (cnt l = 0) := by rw [decide_eq_decide]; unfold cnt; omega
  rw [e1, e2, e3, e4] at hu
  clear e1 e2 e3 e4
  generalize decide (N (V l) = l) = t1 at *
  generalize decide (N (V b) = b) = t2 at *
  cases t1
  · cbv; (repeat ((first | refine ln fun _ _ _ => ?_ | refine tt ?_ | refine ff ?_ | refine wr fun _ _ => ?_ | refine wu fun _ _ => ?_ | refine rp fun _ _ _ => ?_ | refine cp fun _ => ?_ | with_reducible refine bq ?_ | refine cl ?_ | refine sd ?_ | refine tt ?_ (by refine ⟨?_, ?_, ?_, ?_, ?_⟩ <;> first | omega | exact True.intro) | refine tt ?_ (by refine ⟨?_, ?_, ?_, ?_⟩ <;> first | omega | exact True.intro) | refine tt ?_ (by refine ⟨?_, ?_, ?_⟩ <;> first | omega | exact True.intro) | refine ff ?_ (by rintro ⟨_, _, _, _, _⟩; omega) | refine ff ?_ (by rintro ⟨_, _, _, _⟩; omega) | refine ff ?_ (by rintro ⟨_, _, _⟩; omega) | intro _ _); cbv)); rw [hu]; rfl
  cases t2
  · cbv; (repeat ((first | refine ln fun _ _ _ => ?_ | refine tt ?_ | refine ff ?_ | refine wr fun _ _ => ?_ | refine wu fun _ _ => ?_ | refine rp fun _ _ _ => ?_ | refine cp fun _ => ?_ | with_reducible refine bq ?_ | refine cl ?_ | refine sd ?_ | refine tt ?_ (by refine ⟨?_, ?_, ?_, ?_, ?_⟩ <;> first | omega | exact True.intro) | refine tt ?_ (by refine ⟨?_, ?_, ?_, ?_⟩ <;> first | omega | exact True.intro) | refine tt ?_ (by refine ⟨?_, ?_, ?_⟩ <;> first | omega | exact True.intro) | refine ff ?_ (by rintro ⟨_, _, _, _, _⟩; omega) | refine ff ?_ (by rintro ⟨_, _, _, _⟩; omega) | refine ff ?_ (by rintro ⟨_, _, _⟩; omega) | intro _ _); cbv)); rw [hu]; rfl
  by_cases h3 : cnt b = 0
  · cbv; (repeat ((first | refine ln fun _ _ _ => ?_ | refine tt ?_ | refine ff ?_ | refine wr fun _ _ => ?_ | refine wu fun _ _ => ?_ | refine rp fun _ _ _ => ?_ | refine cp fun _ => ?_ | with_reducible refine bq ?_ | refine cl ?_ | refine sd ?_ | refine tt ?_ (by refine ⟨?_, ?_, ?_, ?_, ?_⟩ <;> first | omega | exact True.intro) | refine tt ?_ (by refine ⟨?_, ?_, ?_, ?_⟩ <;> first | omega | exact True.intro) | refine tt ?_ (by refine ⟨?_, ?_, ?_⟩ <;> first | omega | exact True.intro) | refine ff ?_ (by rintro ⟨_, _, _, _, _⟩; omega) | refine ff ?_ (by rintro ⟨_, _, _, _⟩; omega) | refine ff ?_ (by rintro ⟨_, _, _⟩; omega) | intro _ _); cbv)); rw [hu]; simp [h3]
  by_cases h4 : cnt b ≤ 64
  case neg => cases s <;> by_cases h6 : cnt l = 0 <;> by_cases h5 : cnt l ≤ 64 <;> cbv <;> (repeat ((first | refine ln fun _ _ _ => ?_ | refine tt ?_ | refine ff ?_ | refine wr fun _ _ => ?_ | refine wu fun _ _ => ?_ | refine rp fun _ _ _ => ?_ | refine cp fun _ => ?_ | with_reducible refine bq ?_ | refine cl ?_ | refine sd ?_ | refine tt ?_ (by refine ⟨?_, ?_, ?_, ?_, ?_⟩ <;> first | omega | exact True.intro) | refine tt ?_ (by refine ⟨?_, ?_, ?_, ?_⟩ <;> first | omega | exact True.intro) | refine tt ?_ (by refine ⟨?_, ?_, ?_⟩ <;> first | omega | exact True.intro) | refine ff ?_ (by rintro ⟨_, _, _, _, _⟩; omega) | refine ff ?_ (by rintro ⟨_, _, _, _⟩; omega) | refine ff ?_ (by rintro ⟨_, _, _⟩; omega) | intro _ _); cbv)) <;> (rw [hu]; simp [h4])
  by_cases h5 : cnt l ≤ 64
  case neg => cases s <;> cbv <;> (repeat ((first | refine ln fun _ _ _ => ?_ | refine tt ?_ | refine ff ?_ | refine wr fun _ _ => ?_ | refine wu fun _ _ => ?_ | refine rp fun _ _ _ => ?_ | refine cp fun _ => ?_ | with_reducible refine bq ?_ | refine cl ?_ | refine sd ?_ | refine tt ?_ (by refine ⟨?_, ?_, ?_, ?_, ?_⟩ <;> first | omega | exact True.intro) | refine tt ?_ (by refine ⟨?_, ?_, ?_, ?_⟩ <;> first | omega | exact True.intro) | refine tt ?_ (by refine ⟨?_, ?_, ?_⟩ <;> first | omega | exact True.intro) | refine ff ?_ (by rintro ⟨_, _, _, _, _⟩; omega) | refine ff ?_ (by rintro ⟨_, _, _, _⟩; omega) | refine ff ?_ (by rintro ⟨_, _, _⟩; omega) | intro _ _); cbv)) <;> (rw [hu]; simp [h5])
  have k3 := hC 13 steelyardref03_Gcd.R (by simp) _ _ (gcd3R hl hb (by omega) (by omega))
  obtain ⟨g, eg⟩ : ∃ g, g = Nat.gcd (V l) (V b) := ⟨_, rfl⟩
  rw [show decide (Nat.gcd (V l) (V b) = 1) = decide (g = 1) by rw [eg]] at hu
  rw [← eg] at k3
  clear eg
  by_cases h7 : len g = 1
  · have hc : cnt (N g) = 1 := by rw [cnt_N]; omega
    have hi : (N g)[(0 : Int).toNat]? = some (g : Int) := by rw [limb1 h7]; rfl
    generalize N g = l3 at *
    rw [show decide (g = 1) = decide ((g : Int) = 1) by rw [decide_eq_decide]; omega] at hu
    generalize (g : Int) = y at *
    clear h7
    cases s
    · by_cases hd : y = 1 <;> cbv <;> (repeat ((first | refine ln fun _ _ _ => ?_ | refine tt ?_ | refine ff ?_ | refine wr fun _ _ => ?_ | refine wu fun _ _ => ?_ | refine rp fun _ _ _ => ?_ | refine cp fun _ => ?_ | with_reducible refine bq ?_ | refine cl ?_ | refine sd ?_ | refine tt ?_ (by refine ⟨?_, ?_, ?_, ?_, ?_⟩ <;> first | omega | exact True.intro) | refine tt ?_ (by refine ⟨?_, ?_, ?_, ?_⟩ <;> first | omega | exact True.intro) | refine tt ?_ (by refine ⟨?_, ?_, ?_⟩ <;> first | omega | exact True.intro) | refine ff ?_ (by rintro ⟨_, _, _, _, _⟩; omega) | refine ff ?_ (by rintro ⟨_, _, _, _⟩; omega) | refine ff ?_ (by rintro ⟨_, _, _⟩; omega) | intro _ _); cbv)) <;> (refine ei ?_ (by omega) hi) <;> cbv <;> (repeat ((first | refine ln fun _ _ _ => ?_ | refine tt ?_ | refine ff ?_ | refine wr fun _ _ => ?_ | refine wu fun _ _ => ?_ | refine rp fun _ _ _ => ?_ | refine cp fun _ => ?_ | with_reducible refine bq ?_ | refine cl ?_ | refine sd ?_ | refine tt ?_ (by refine ⟨?_, ?_, ?_, ?_, ?_⟩ <;> first | omega | exact True.intro) | refine tt ?_ (by refine ⟨?_, ?_, ?_, ?_⟩ <;> first | omega | exact True.intro) | refine tt ?_ (by refine ⟨?_, ?_, ?_⟩ <;> first | omega | exact True.intro) | refine ff ?_ (by rintro ⟨_, _, _, _, _⟩; omega) | refine ff ?_ (by rintro ⟨_, _, _, _⟩; omega) | refine ff ?_ (by rintro ⟨_, _, _⟩; omega) | intro _ _); cbv)) <;> (rw [hu]; simp [h3, h4, h5, hd])
    · by_cases h6 : cnt l = 0
      · cbv; (repeat ((first | refine ln fun _ _ _ => ?_ | refine tt ?_ | refine ff ?_ | refine wr fun _ _ => ?_ | refine wu fun _ _ => ?_ | refine rp fun _ _ _ => ?_ | refine cp fun _ => ?_ | with_reducible refine bq ?_ | refine cl ?_ | refine sd ?_ | refine tt ?_ (by refine ⟨?_, ?_, ?_, ?_, ?_⟩ <;> first | omega | exact True.intro) | refine tt ?_ (by refine ⟨?_, ?_, ?_, ?_⟩ <;> first | omega | exact True.intro) | refine tt ?_ (by refine ⟨?_, ?_, ?_⟩ <;> first | omega | exact True.intro) | refine ff ?_ (by rintro ⟨_, _, _, _, _⟩; omega) | refine ff ?_ (by rintro ⟨_, _, _, _⟩; omega) | refine ff ?_ (by rintro ⟨_, _, _⟩; omega) | intro _ _); cbv)); rw [hu]; simp [h6]
      · by_cases hd : y = 1 <;> cbv <;> (repeat ((first | refine ln fun _ _ _ => ?_ | refine tt ?_ | refine ff ?_ | refine wr fun _ _ => ?_ | refine wu fun _ _ => ?_ | refine rp fun _ _ _ => ?_ | refine cp fun _ => ?_ | with_reducible refine bq ?_ | refine cl ?_ | refine sd ?_ | refine tt ?_ (by refine ⟨?_, ?_, ?_, ?_, ?_⟩ <;> first | omega | exact True.intro) | refine tt ?_ (by refine ⟨?_, ?_, ?_, ?_⟩ <;> first | omega | exact True.intro) | refine tt ?_ (by refine ⟨?_, ?_, ?_⟩ <;> first | omega | exact True.intro) | refine ff ?_ (by rintro ⟨_, _, _, _, _⟩; omega) | refine ff ?_ (by rintro ⟨_, _, _, _⟩; omega) | refine ff ?_ (by rintro ⟨_, _, _⟩; omega) | intro _ _); cbv)) <;> (refine ei ?_ (by omega) hi) <;> cbv <;> (repeat ((first | refine ln fun _ _ _ => ?_ | refine tt ?_ | refine ff ?_ | refine wr fun _ _ => ?_ | refine wu fun _ _ => ?_ | refine rp fun _ _ _ => ?_ | refine cp fun _ => ?_ | with_reducible refine bq ?_ | refine cl ?_ | refine sd ?_ | refine tt ?_ (by refine ⟨?_, ?_, ?_, ?_, ?_⟩ <;> first | omega | exact True.intro) | refine tt ?_ (by refine ⟨?_, ?_, ?_, ?_⟩ <;> first | omega | exact True.intro) | refine tt ?_ (by refine ⟨?_, ?_, ?_⟩ <;> first | omega | exact True.intro) | refine ff ?_ (by rintro ⟨_, _, _, _, _⟩; omega) | refine ff ?_ (by rintro ⟨_, _, _, _⟩; omega) | refine ff ?_ (by rintro ⟨_, _, _⟩; omega) | intro _ _); cbv)) <;> (rw [hu]; simp [h3, h4, h5, h6, hd])
  · have h8 : ¬ cnt (N g) = 1 := by rw [cnt_N]; omega
    have h9 : ¬ g = 1 := fun h => h7 (by rw [h]; decide +kernel)
    rw [decide_eq_false h9] at hu
    generalize N g = l3 at *
    clear h7 h9
    cases s
    · cbv; (repeat ((first | refine ln fun _ _ _ => ?_ | refine tt ?_ | refine ff ?_ | refine wr fun _ _ => ?_ | refine wu fun _ _ => ?_ | refine rp fun _ _ _ => ?_ | refine cp fun _ => ?_ | with_reducible refine bq ?_ | refine cl ?_ | refine sd ?_ | refine tt ?_ (by refine ⟨?_, ?_, ?_, ?_, ?_⟩ <;> first | omega | exact True.intro) | refine tt ?_ (by refine ⟨?_, ?_, ?_, ?_⟩ <;> first | omega | exact True.intro) | refine tt ?_ (by refine ⟨?_, ?_, ?_⟩ <;> first | omega | exact True.intro) | refine ff ?_ (by rintro ⟨_, _, _, _, _⟩; omega) | refine ff ?_ (by rintro ⟨_, _, _, _⟩; omega) | refine ff ?_ (by rintro ⟨_, _, _⟩; omega) | intro _ _); cbv)); rw [hu]; simp
    · by_cases h6 : cnt l = 0
      · cbv; (repeat ((first | refine ln fun _ _ _ => ?_ | refine tt ?_ | refine ff ?_ | refine wr fun _ _ => ?_ | refine wu fun _ _ => ?_ | refine rp fun _ _ _ => ?_ | refine cp fun _ => ?_ | with_reducible refine bq ?_ | refine cl ?_ | refine sd ?_ | refine tt ?_ (by refine ⟨?_, ?_, ?_, ?_, ?_⟩ <;> first | omega | exact True.intro) | refine tt ?_ (by refine ⟨?_, ?_, ?_, ?_⟩ <;> first | omega | exact True.intro) | refine tt ?_ (by refine ⟨?_, ?_, ?_⟩ <;> first | omega | exact True.intro) | refine ff ?_ (by rintro ⟨_, _, _, _, _⟩; omega) | refine ff ?_ (by rintro ⟨_, _, _, _⟩; omega) | refine ff ?_ (by rintro ⟨_, _, _⟩; omega) | intro _ _); cbv)); rw [hu]; simp [h6]
      · cbv; (repeat ((first | refine ln fun _ _ _ => ?_ | refine tt ?_ | refine ff ?_ | refine wr fun _ _ => ?_ | refine wu fun _ _ => ?_ | refine rp fun _ _ _ => ?_ | refine cp fun _ => ?_ | with_reducible refine bq ?_ | refine cl ?_ | refine sd ?_ | refine tt ?_ (by refine ⟨?_, ?_, ?_, ?_, ?_⟩ <;> first | omega | exact True.intro) | refine tt ?_ (by refine ⟨?_, ?_, ?_, ?_⟩ <;> first | omega | exact True.intro) | refine tt ?_ (by refine ⟨?_, ?_, ?_⟩ <;> first | omega | exact True.intro) | refine ff ?_ (by rintro ⟨_, _, _, _, _⟩; omega) | refine ff ?_ (by rintro ⟨_, _, _, _⟩; omega) | refine ff ?_ (by rintro ⟨_, _, _⟩; omega) | intro _ _); cbv)); rw [hu]; simp⟩
def u76 (a : R4) : U := .agg [ub a.1, .l a.2.1, .l a.2.2.1, ui a.2.2.2]
theorem u76_parts (a : R4) : ∃ s l b e, u76 a = .agg [ub s, .l l, .l b, ui e] ∧ (s, l, b, e) = a := ⟨_, _, _, _, rfl, rfl⟩
def wideR (us : List U) (u : U) : Prop := ∃ s l b, Limbs l ∧ Limbs b ∧ cnt l ≤ 500000 ∧ cnt b ≤ 500000 ∧ V b ≠ 0 ∧ us = [.agg [ub s, .l l], .l b] ∧ u = uR (ratOf (mkRat (Z s l) (V b)))
theorem wide_ok : SoundF Try.prog 80 wideR := sound [(95, trim6R), (60, make6R), (13, steelyardref03_Gcd.R), (33, steelyardref03_Rem.R)] (orc_cons trim6_ok (orc_cons make6_ok (orc_cons steelyardref03_Gcd.sound (orc_cons steelyardref03_Rem.sound orc_nil)))) Try.func80 (by kernel_rfl) (by kernel_rfl) fun us u hR => ⟨0, fun C E hC => by
  obtain ⟨s, l, b, hl, hb, c1, c2, hz, rfl, hu⟩ := hR
  obtain ⟨s1, l1, k1, e1, e2⟩ := tI (hC 95 trim6R (by simp) _ _ ⟨s, l, hl, by omega, rfl, rfl⟩)
  have b1 := lenV hl
  have b2 := lenV hb
  rw [← Z_abs s l] at b1
  generalize Z s l = z at *
  obtain ⟨p1, p2, p3⟩ := mk_parts z (V b) hz
  have hg : 0 < Nat.gcd z.natAbs (V b) := Nat.gcd_pos_of_pos_right _ (by omega)
  have hgb : len (Nat.gcd z.natAbs (V b)) ≤ len (V b) := len_mono (Nat.gcd_le_right _ (by omega))
  have k3 := hC 13 steelyardref03_Gcd.R (by simp) _ _ (gcd3R (a := l1) (e2 ▸ N_limbs _) hb (by rw [e2, cnt_N]; omega) (by omega))
  have v1 : V l1 = z.natAbs := by rw [e2, V_N]
  have q1 : cnt l1 = len z.natAbs := by rw [e2, cnt_N]
  rw [v1] at k3
  have k4 := hC 33 steelyardref03_Rem.R (by simp) _ _ (rem3R (a := l1) (e2 ▸ N_limbs _) (N_limbs (Nat.gcd z.natAbs (V b))) (by omega) (by rw [cnt_N]; omega) (by rw [V_N]; omega))
  have k5 := hC 33 steelyardref03_Rem.R (by simp) _ _ (rem3R hb (N_limbs (Nat.gcd z.natAbs (V b))) (by omega) (by rw [cnt_N]; omega) (by rw [V_N]; omega))
  rw [v1, V_N, ← p1] at k4
  rw [V_N, ← p2] at k5
  have hx : len (mkRat z (V b)).num.natAbs ≤ len z.natAbs := by rw [p1]; exact len_mono (Nat.div_le_self _ _)
  have k6 := hC 60 make6R (by simp) _ _ ⟨s1, N (mkRat z (V b)).num.natAbs, N_limbs _, by rw [cnt_N]; omega, rfl, rfl⟩
  rw [show Z s1 (N (mkRat z (V b)).num.natAbs) = (mkRat z (V b)).num by rw [e1, ← p3]; exact Z_I _] at k6
  obtain ⟨s7, l7, k6, i7, i8⟩ := tI k6
  have hu' : u = .agg [ub s7, .l l7, .l (N (mkRat z (V b)).den)] := by rw [hu, i7, i8]; rfl
  clear hu i7 i8 e1 e2 p1 p2 p3 hg hgb v1 b1 b2 q1 hb hl hz hx c1 c2
  generalize N (mkRat z (V b)).num.natAbs = l3 at *
  generalize N (mkRat z (V b)).den = l4 at *
  generalize N (Nat.gcd z.natAbs (V b)) = l6 at *
  generalize N (z.natAbs % Nat.gcd z.natAbs (V b)) = l8 at *
  generalize N (V b % Nat.gcd z.natAbs (V b)) = l9 at *
  cbv; (repeat ((first | refine ln fun _ _ _ => ?_ | refine tt ?_ | refine ff ?_ | refine wr fun _ _ => ?_ | refine wu fun _ _ => ?_ | refine rp fun _ _ _ => ?_ | refine cp fun _ => ?_ | with_reducible refine bq ?_ | refine cl ?_ | refine sd ?_ | refine tt ?_ (by refine ⟨?_, ?_, ?_, ?_, ?_⟩ <;> first | omega | exact True.intro) | refine tt ?_ (by refine ⟨?_, ?_, ?_, ?_⟩ <;> first | omega | exact True.intro) | refine tt ?_ (by refine ⟨?_, ?_, ?_⟩ <;> first | omega | exact True.intro) | refine ff ?_ (by rintro ⟨_, _, _, _, _⟩; omega) | refine ff ?_ (by rintro ⟨_, _, _, _⟩; omega) | refine ff ?_ (by rintro ⟨_, _, _⟩; omega) | intro _ _); cbv)); exact hu'.symm⟩
def limitR (us : List U) (u : U) : Prop := ∃ q, us = [uR (ratOf q)] ∧ u = u76 (lim q)
theorem limit_ok : SoundF Try.prog 58 limitR := sound [] orc_nil Try.func58 (by kernel_rfl) (by kernel_rfl) fun us u hR => ⟨0, fun C E hC => by
  obtain ⟨q, rfl, hu⟩ := hR
  have hu2 : u = if cnt (N q.num.natAbs) ≤ 64 ∧ cnt (N q.den) ≤ 64 then .agg [ub (decide (q.num < 0)), .l (N q.num.natAbs), .l (N q.den), ui 0] else .agg [ub false, .l [], .l [], ui 2] := by
    rw [hu, cnt_N, cnt_N]
    unfold lim fits
    by_cases h : len q.num.natAbs ≤ 64 ∧ len q.den ≤ 64
    · rw [if_pos (by simpa using h), if_pos (by omega)]; rfl
    · rw [if_neg (by simpa using h), if_neg (by omega)]; rfl
  clear hu
  unfold uR ratOf
  dsimp only
  generalize decide (q.num < 0) = s at *
  generalize N q.num.natAbs = l at *
  generalize N q.den = b at *
  by_cases h1 : cnt l ≤ 64
  · by_cases h2 : cnt b ≤ 64
    · rw [if_pos ⟨h1, h2⟩] at hu2
      cbv; (repeat ((first | refine ln fun _ _ _ => ?_ | refine tt ?_ | refine ff ?_ | refine wr fun _ _ => ?_ | refine wu fun _ _ => ?_ | refine rp fun _ _ _ => ?_ | refine cp fun _ => ?_ | with_reducible refine bq ?_ | refine cl ?_ | refine sd ?_ | refine tt ?_ (by refine ⟨?_, ?_, ?_, ?_, ?_⟩ <;> first | omega | exact True.intro) | refine tt ?_ (by refine ⟨?_, ?_, ?_, ?_⟩ <;> first | omega | exact True.intro) | refine tt ?_ (by refine ⟨?_, ?_, ?_⟩ <;> first | omega | exact True.intro) | refine ff ?_ (by rintro ⟨_, _, _, _, _⟩; omega) | refine ff ?_ (by rintro ⟨_, _, _, _⟩; omega) | refine ff ?_ (by rintro ⟨_, _, _⟩; omega) | intro _ _); cbv)); exact hu2.symm
    · rw [if_neg (by omega)] at hu2
      cbv; (repeat ((first | refine ln fun _ _ _ => ?_ | refine tt ?_ | refine ff ?_ | refine wr fun _ _ => ?_ | refine wu fun _ _ => ?_ | refine rp fun _ _ _ => ?_ | refine cp fun _ => ?_ | with_reducible refine bq ?_ | refine cl ?_ | refine sd ?_ | refine tt ?_ (by refine ⟨?_, ?_, ?_, ?_, ?_⟩ <;> first | omega | exact True.intro) | refine tt ?_ (by refine ⟨?_, ?_, ?_, ?_⟩ <;> first | omega | exact True.intro) | refine tt ?_ (by refine ⟨?_, ?_, ?_⟩ <;> first | omega | exact True.intro) | refine ff ?_ (by rintro ⟨_, _, _, _, _⟩; omega) | refine ff ?_ (by rintro ⟨_, _, _, _⟩; omega) | refine ff ?_ (by rintro ⟨_, _, _⟩; omega) | intro _ _); cbv)); exact hu2.symm
  · rw [if_neg (by omega)] at hu2
    cbv; (repeat ((first | refine ln fun _ _ _ => ?_ | refine tt ?_ | refine ff ?_ | refine wr fun _ _ => ?_ | refine wu fun _ _ => ?_ | refine rp fun _ _ _ => ?_ | refine cp fun _ => ?_ | with_reducible refine bq ?_ | refine cl ?_ | refine sd ?_ | refine tt ?_ (by refine ⟨?_, ?_, ?_, ?_, ?_⟩ <;> first | omega | exact True.intro) | refine tt ?_ (by refine ⟨?_, ?_, ?_, ?_⟩ <;> first | omega | exact True.intro) | refine tt ?_ (by refine ⟨?_, ?_, ?_⟩ <;> first | omega | exact True.intro) | refine ff ?_ (by rintro ⟨_, _, _, _, _⟩; omega) | refine ff ?_ (by rintro ⟨_, _, _, _⟩; omega) | refine ff ?_ (by rintro ⟨_, _, _⟩; omega) | intro _ _); cbv)); exact hu2.symm⟩
def timesR (us : List U) (u : U) : Prop := ∃ p s l b, fits p = true ∧ Limbs l ∧ Limbs b ∧ cnt l ≤ 64 ∧ cnt b ≤ 64 ∧ V b ≠ 0 ∧ us = [uR (ratOf p), .agg [ub s, .l l, .l b]] ∧ u = uR (ratOf (mkRat (p.num * Z s l) (p.den * V b)))
theorem times_ok : SoundF Try.prog 59 timesR := sound [(81, mul6R), (82, steelyardref02_Of.R), (80, wideR)] (orc_cons mul6_ok (orc_cons steelyardref02_Of.sound (orc_cons wide_ok orc_nil))) Try.func59 (by kernel_rfl) (by kernel_rfl) fun us u hR => ⟨0, fun C E hC => by
  obtain ⟨p, s, l, b, hp, hl, hb, c1, c2, hz, rfl, hu⟩ := hR
  obtain ⟨s1, l1, b1, e, f1, f2, f3, f4, f5, f6, f7, f8⟩ := rat_parts hp
  rw [e]
  have k1 := hC 81 mul6R (by simp) _ _ ⟨s1, l1, s, l, f1, hl, by omega, by omega, rfl, rfl⟩
  rw [f5] at k1
  have k2 := hC 82 steelyardref02_Of.R (by simp) _ _ (of2R f2 hb (by omega) (by omega))
  rw [f6] at k2
  have m1 := len_mulZ p.num (Z s l)
  have m2 := len_mul p.den (V b)
  obtain ⟨n1, n2⟩ := fits_len hp
  have n3 := lenV hl
  have n4 := lenV hb
  rw [Z_abs] at m1
  obtain ⟨s2, l2, k1, i1, i2⟩ := tI k1
  obtain ⟨l3, k2, i3⟩ := tN k2
  obtain ⟨s4, l4, b4, k3, i4⟩ := tR (hC 80 wideR (by simp) _ _ ⟨s2, l2, l3, i2 ▸ N_limbs _, i3 ▸ N_limbs _, by rw [i2, cnt_N]; omega, by rw [i3, cnt_N]; omega, by rw [i3, V_N]; exact Nat.mul_ne_zero p.den_nz hz, rfl, rfl⟩)
  rw [show Z s2 l2 = p.num * Z s l by rw [i1, i2]; exact Z_I _, show V l3 = p.den * V b by rw [i3, V_N]] at i4
  rw [← i4] at hu
  clear e i1 i2 i3 i4 m1 m2 n1 n2 n3 n4 f1 f2 f3 f4 f5 f6 f7 f8 hp hz
  cbv; (repeat ((first | refine ln fun _ _ _ => ?_ | refine tt ?_ | refine ff ?_ | refine wr fun _ _ => ?_ | refine wu fun _ _ => ?_ | refine rp fun _ _ _ => ?_ | refine cp fun _ => ?_ | with_reducible refine bq ?_ | refine cl ?_ | refine sd ?_ | refine tt ?_ (by refine ⟨?_, ?_, ?_, ?_, ?_⟩ <;> first | omega | exact True.intro) | refine tt ?_ (by refine ⟨?_, ?_, ?_, ?_⟩ <;> first | omega | exact True.intro) | refine tt ?_ (by refine ⟨?_, ?_, ?_⟩ <;> first | omega | exact True.intro) | refine ff ?_ (by rintro ⟨_, _, _, _, _⟩; omega) | refine ff ?_ (by rintro ⟨_, _, _, _⟩; omega) | refine ff ?_ (by rintro ⟨_, _, _⟩; omega) | intro _ _); cbv)); exact hu.symm⟩
def div7R (us : List U) (u : U) : Prop := ∃ a b : R3, LB a ∧ LB b ∧ us = [uR a, uR b] ∧ u = u76 (divS a b)
theorem div7_ok : SoundF Try.prog 34 div7R := sound [(4, goodR), (60, make6R), (59, timesR), (58, limitR)] (orc_cons good7_ok (orc_cons make6_ok (orc_cons times_ok (orc_cons limit_ok orc_nil)))) Try.func34 (by kernel_rfl) (by kernel_rfl) fun us u hR => ⟨0, fun C E hC => by
  obtain ⟨⟨s1, l1, b1⟩, ⟨s2, l2, b2⟩, ha, hb, rfl, hu⟩ := hR
  have k1 := hC 4 goodR (by simp) _ _ ⟨_, ha, rfl, rfl⟩
  have k2 := hC 4 goodR (by simp) _ _ ⟨_, hb, rfl, rfl⟩
  clear ha hb
  unfold divS at hu
  by_cases h1 : goodB (s1, l1, b1) = true
  case neg =>
    rw [Bool.eq_false_iff.2 h1] at k1 hu
    rw [Bool.false_and, if_neg (by simp), show u76 (bad 1) = .agg [ub false, .l [], .l [], ui 1] from rfl] at hu
    cbv; (repeat ((first | refine ln fun _ _ _ => ?_ | refine tt ?_ | refine ff ?_ | refine wr fun _ _ => ?_ | refine wu fun _ _ => ?_ | refine rp fun _ _ _ => ?_ | refine cp fun _ => ?_ | with_reducible refine bq ?_ | refine cl ?_ | refine sd ?_ | refine tt ?_ (by refine ⟨?_, ?_, ?_, ?_, ?_⟩ <;> first | omega | exact True.intro) | refine tt ?_ (by refine ⟨?_, ?_, ?_, ?_⟩ <;> first | omega | exact True.intro) | refine tt ?_ (by refine ⟨?_, ?_, ?_⟩ <;> first | omega | exact True.intro) | refine ff ?_ (by rintro ⟨_, _, _, _, _⟩; omega) | refine ff ?_ (by rintro ⟨_, _, _, _⟩; omega) | refine ff ?_ (by rintro ⟨_, _, _⟩; omega) | intro _ _); cbv)); exact hu.symm
  by_cases h2 : goodB (s2, l2, b2) = true
  case neg =>
    rw [h1] at k1
    rw [Bool.eq_false_iff.2 h2] at k2 hu
    rw [Bool.and_false, if_neg (by simp), show u76 (bad 1) = .agg [ub false, .l [], .l [], ui 1] from rfl] at hu
    cbv; (repeat ((first | refine ln fun _ _ _ => ?_ | refine tt ?_ | refine ff ?_ | refine wr fun _ _ => ?_ | refine wu fun _ _ => ?_ | refine rp fun _ _ _ => ?_ | refine cp fun _ => ?_ | with_reducible refine bq ?_ | refine cl ?_ | refine sd ?_ | refine tt ?_ (by refine ⟨?_, ?_, ?_, ?_, ?_⟩ <;> first | omega | exact True.intro) | refine tt ?_ (by refine ⟨?_, ?_, ?_, ?_⟩ <;> first | omega | exact True.intro) | refine tt ?_ (by refine ⟨?_, ?_, ?_⟩ <;> first | omega | exact True.intro) | refine ff ?_ (by rintro ⟨_, _, _, _, _⟩; omega) | refine ff ?_ (by rintro ⟨_, _, _, _⟩; omega) | refine ff ?_ (by rintro ⟨_, _, _⟩; omega) | intro _ _); cbv)); exact hu.symm
  rw [h1] at k1 hu
  rw [h2] at k2 hu
  rw [Bool.true_and, if_pos rfl] at hu
  obtain ⟨p, hp, e1, f1, f2, f3, f4, f5, f6, f7, f8⟩ := good_parts h1
  obtain ⟨q, hq, e2, g1, g2, g3, g4, g5, g6, g7, g8⟩ := good_parts h2
  rw [e1, e2] at hu
  obtain ⟨p', hp', ep⟩ := good_iff.1 h1
  have : p' = p := by rw [← qOf_ratOf p', ← ep, e1]
  subst this
  have el : cnt l2 = len q.num.natAbs := by
    obtain ⟨q', hq', eq⟩ := good_iff.1 h2
    have : q' = q := by rw [← qOf_ratOf q', ← eq, e2]
    subst this
    injection eq with _ eq
    injection eq with eq _
    rw [eq, cnt_N]
  have h0 : len q.num.natAbs = 0 ↔ q.num.natAbs = 0 := len_eq_zero
  by_cases hz : q = 0
  · have hn : q.num = 0 := Rat.num_eq_zero.2 hz
    rw [if_pos hz, show u76 (bad 3) = .agg [ub false, .l [], .l [], ui 3] from rfl] at hu
    have hl0 : cnt l2 = 0 := by omega
    clear el h0 hn e1 e2 f1 f2 f3 f4 f5 f6 f7 f8 g1 g2 g3 g4 g5 g6 g7 g8 hz h1 h2
    cbv; (repeat ((first | refine ln fun _ _ _ => ?_ | refine tt ?_ | refine ff ?_ | refine wr fun _ _ => ?_ | refine wu fun _ _ => ?_ | refine rp fun _ _ _ => ?_ | refine cp fun _ => ?_ | with_reducible refine bq ?_ | refine cl ?_ | refine sd ?_ | refine tt ?_ (by refine ⟨?_, ?_, ?_, ?_, ?_⟩ <;> first | omega | exact True.intro) | refine tt ?_ (by refine ⟨?_, ?_, ?_, ?_⟩ <;> first | omega | exact True.intro) | refine tt ?_ (by refine ⟨?_, ?_, ?_⟩ <;> first | omega | exact True.intro) | refine ff ?_ (by rintro ⟨_, _, _, _, _⟩; omega) | refine ff ?_ (by rintro ⟨_, _, _, _⟩; omega) | refine ff ?_ (by rintro ⟨_, _, _⟩; omega) | intro _ _); cbv)); exact hu.symm
  · have hn : q.num ≠ 0 := fun h => hz (Rat.num_eq_zero.1 h)
    have hl0 : ¬ cnt l2 = 0 := by omega
    rw [if_neg hz] at hu
    have k3 := hC 60 make6R (by simp) _ _ ⟨s2, b2, g2, by omega, rfl, rfl⟩
    have e3 : Z s2 b2 = if q.num < 0 then -(q.den : Int) else (q.den : Int) := by
      unfold Z
      rw [g6, g8]
      by_cases h : q.num < 0 <;> simp [h]
    rw [e3] at k3
    obtain ⟨s3, l3, k3, i1, i2⟩ := tI k3
    have ea : (if q.num < 0 then -(q.den : Int) else (q.den : Int)).natAbs = q.den := by split <;> omega
    rw [ea] at i2
    have hq2 := fits_len hq
    have k4 := hC 59 timesR (by simp) _ _ ⟨p', s3, l3, l2, hp', i2 ▸ N_limbs _, g1, by rw [i2, cnt_N]; omega, by omega, by omega, rfl, rfl⟩
    rw [← ep, show Z s3 l3 = (if q.num < 0 then -(q.den : Int) else (q.den : Int)) by rw [i1, i2]; have := Z_I (if q.num < 0 then -(q.den : Int) else (q.den : Int)); rw [I_1, I_2, ea] at this; exact this, g7, show mkRat (p'.num * (if q.num < 0 then -(q.den : Int) else (q.den : Int))) (p'.den * q.num.natAbs) = p' / q by
      rw [← div_mk p' q hn]
      congr 1
      split
      · rw [Int.mul_neg]
      · rfl] at k4
    have k5 := hC 58 limitR (by simp) _ _ ⟨p' / q, rfl, rfl⟩
    obtain ⟨s6, l6, b6, e6, hu', i6⟩ := u76_parts (lim (p' / q))
    rw [hu'] at k5 hu
    obtain ⟨s5, l5, b5, k4, i5⟩ := tR k4
    rw [← i5] at k5
    clear hu' i5 i6 el h0 hn e1 e2 f1 f2 f3 f4 f5 f6 f7 f8 g1 g2 g3 g4 g5 g6 g7 g8 hz h1 h2 e3 i1 i2 ea hq2 ep hp hp' hq
    cbv; (repeat ((first | refine ln fun _ _ _ => ?_ | refine tt ?_ | refine ff ?_ | refine wr fun _ _ => ?_ | refine wu fun _ _ => ?_ | refine rp fun _ _ _ => ?_ | refine cp fun _ => ?_ | with_reducible refine bq ?_ | refine cl ?_ | refine sd ?_ | refine tt ?_ (by refine ⟨?_, ?_, ?_, ?_, ?_⟩ <;> first | omega | exact True.intro) | refine tt ?_ (by refine ⟨?_, ?_, ?_, ?_⟩ <;> first | omega | exact True.intro) | refine tt ?_ (by refine ⟨?_, ?_, ?_⟩ <;> first | omega | exact True.intro) | refine ff ?_ (by rintro ⟨_, _, _, _, _⟩; omega) | refine ff ?_ (by rintro ⟨_, _, _, _⟩; omega) | refine ff ?_ (by rintro ⟨_, _, _⟩; omega) | intro _ _); cbv)); exact hu.symm⟩
def whole7R (us : List U) (u : U) : Prop := ∃ v : Int, -9223372036854775808 ≤ v ∧ v ≤ 9223372036854775807 ∧ us = [ui v] ∧ u = uR (ratOf (v : Rat))
theorem whole7_ok : SoundF Try.prog 35 whole7R := sound [(61, of6R)] (orc_cons of6_ok orc_nil) Try.func35 (by kernel_rfl) (by kernel_rfl) fun us u hR => ⟨0, fun C E hC => by
  obtain ⟨v, h0, h1, rfl, hu⟩ := hR
  obtain ⟨s, l, k1, e1, e2⟩ := tI (hC 61 of6R (by simp) _ _ ⟨v, h0, h1, rfl, rfl⟩)
  rw [ratOf_int, N_one] at hu
  cbv; (repeat ((first | refine ln fun _ _ _ => ?_ | refine tt ?_ | refine ff ?_ | refine wr fun _ _ => ?_ | refine wu fun _ _ => ?_ | refine rp fun _ _ _ => ?_ | refine cp fun _ => ?_ | with_reducible refine bq ?_ | refine cl ?_ | refine sd ?_ | refine tt ?_ (by refine ⟨?_, ?_, ?_, ?_, ?_⟩ <;> first | omega | exact True.intro) | refine tt ?_ (by refine ⟨?_, ?_, ?_, ?_⟩ <;> first | omega | exact True.intro) | refine tt ?_ (by refine ⟨?_, ?_, ?_⟩ <;> first | omega | exact True.intro) | refine ff ?_ (by rintro ⟨_, _, _, _, _⟩; omega) | refine ff ?_ (by rintro ⟨_, _, _, _⟩; omega) | refine ff ?_ (by rintro ⟨_, _, _⟩; omega) | intro _ _); cbv)); rw [hu, e1, e2]; rfl⟩
def byR (us : List U) (u : U) : Prop := ∃ a b : Int, -9223372036854775808 ≤ a ∧ a ≤ 9223372036854775807 ∧ 0 < b ∧ b ≤ 9223372036854775807 ∧ fits ((a : Rat) / (b : Rat)) = true ∧ us = [ui a, ui b] ∧ u = uR (ratOf ((a : Rat) / (b : Rat)))
theorem by_ok : SoundF Try.prog 14 byR := sound [(35, whole7R), (34, div7R)] (orc_cons whole7_ok (orc_cons div7_ok orc_nil)) Try.func14 (by kernel_rfl) (by kernel_rfl) fun us u hR => ⟨0, fun C E hC => by
  obtain ⟨a, b, h0, h1, h2, h3, hf, rfl, hu⟩ := hR
  have k1 := hC 35 whole7R (by simp) _ _ ⟨a, h0, h1, rfl, rfl⟩
  have k2 := hC 35 whole7R (by simp) _ _ ⟨b, by omega, h3, rfl, rfl⟩
  have fa : fits (a : Rat) = true := fits_int a (by omega)
  have fb : fits (b : Rat) = true := fits_int b (by omega)
  have hb : (b : Rat) ≠ 0 := by have : b ≠ 0 := by omega
                                exact_mod_cast this
  have k3 := hC 34 div7R (by simp) _ _ ⟨ratOf (a : Rat), ratOf (b : Rat), (LR_ratOf fa).wide, (LR_ratOf fb).wide, rfl, rfl⟩
  rw [divS_fits fa fb hb hf] at k3
  obtain ⟨s1, l1, b1, k1, i1⟩ := tR k1
  obtain ⟨s2, l2, b2, k2, i2⟩ := tR k2
  rw [← i1, ← i2] at k3
  rcases i3 : ratOf ((a : Rat) / (b : Rat)) with ⟨s3, l3, b3⟩
  rw [i3] at k3 hu
  clear i1 i2 i3 hf fa fb hb
  cbv; (repeat ((first | refine ln fun _ _ _ => ?_ | refine tt ?_ | refine ff ?_ | refine wr fun _ _ => ?_ | refine wu fun _ _ => ?_ | refine rp fun _ _ _ => ?_ | refine cp fun _ => ?_ | with_reducible refine bq ?_ | refine cl ?_ | refine sd ?_ | refine tt ?_ (by refine ⟨?_, ?_, ?_, ?_, ?_⟩ <;> first | omega | exact True.intro) | refine tt ?_ (by refine ⟨?_, ?_, ?_, ?_⟩ <;> first | omega | exact True.intro) | refine tt ?_ (by refine ⟨?_, ?_, ?_⟩ <;> first | omega | exact True.intro) | refine ff ?_ (by rintro ⟨_, _, _, _, _⟩; omega) | refine ff ?_ (by rintro ⟨_, _, _, _⟩; omega) | refine ff ?_ (by rintro ⟨_, _, _⟩; omega) | intro _ _); cbv)); exact hu.symm⟩
end Go.Proofs.Ytheciiemknmnoaa.Rd
end
section
set_option linter.unusedVariables false
set_option linter.unusedSimpArgs false
set_option maxRecDepth 100000
set_option maxHeartbeats 4000000
namespace Go.Proofs.Ytheciiemknmnoaa.Rd
open Go Go.RowKit Go.Proofs.YtheciiemknmnoaaW.PrintWords Go.Proofs.Ytheciiemknmnoaa.PL Go.Proofs.Ytheciiemknmnoaa.Num

def quotC : List Tm := [⟨2, 0, 0, 0, none3⟩, ⟨2, 0, 0, 1, none3⟩, ⟨6, 0, 1, 0, none3⟩, ⟨1, 0, 0, 0, ratOf 1⟩, ⟨4, 2, 3, 0, none3⟩]
def quotR (us : List U) (u : U) : Prop := us = [] ∧ u = cU quotC
theorem by_q {C : Orc} (h : Told C 14 byR) (a b : Int) (q : Rat) (h0 : -9223372036854775808 ≤ a ∧ a ≤ 9223372036854775807 ∧ 0 < b ∧ b ≤ 9223372036854775807) (hq : (a : Rat) / (b : Rat) = q) (hf : fits q = true) : ∃ s l d, C 14 [ui a, ui b] (.agg [ub s, .l l, .l d]) ∧ (s, l, d) = ratOf q := by
  subst hq
  exact tR (h _ _ ⟨a, b, h0.1, h0.2.1, h0.2.2.1, h0.2.2.2, hf, rfl, rfl⟩)
theorem quot_ok : SoundF Try.prog 15 quotR := sound [(14, byR)] (orc_cons by_ok orc_nil) Try.func15 (by kernel_rfl) (by kernel_rfl) fun us u hR => ⟨0, fun C E hC => by
  obtain ⟨rfl, hu⟩ := hR
  obtain ⟨s, l, d, k1, e⟩ := by_q (hC 14 byR (by simp)) 1 1 1 (by decide) (by decide +kernel) (by decide +kernel)
  have hu : u = .s 7 [[ui 2, ui 0, ui 0, ui 0, ub false, .l [], .l []], [ui 2, ui 0, ui 0, ui 1, ub false, .l [], .l []], [ui 6, ui 0, ui 1, ui 0, ub false, .l [], .l []], [ui 1, ui 0, ui 0, ui 0, ub s, .l l, .l d], [ui 4, ui 2, ui 3, ui 0, ub false, .l [], .l []]] := by
    rw [hu]
    unfold cU quotC
    rw [← e]
    rfl
  clear e
  cbv; (repeat ((first | refine ln fun _ _ _ => ?_ | refine tt ?_ | refine ff ?_ | refine wr fun _ _ => ?_ | refine wu fun _ _ => ?_ | refine rp fun _ _ _ => ?_ | refine cp fun _ => ?_ | with_reducible refine bq ?_ | refine cl ?_ | refine sd ?_ | refine tt ?_ (by refine ⟨?_, ?_, ?_, ?_, ?_⟩ <;> first | omega | exact True.intro) | refine tt ?_ (by refine ⟨?_, ?_, ?_, ?_⟩ <;> first | omega | exact True.intro) | refine tt ?_ (by refine ⟨?_, ?_, ?_⟩ <;> first | omega | exact True.intro) | refine ff ?_ (by rintro ⟨_, _, _, _, _⟩; omega) | refine ff ?_ (by rintro ⟨_, _, _, _⟩; omega) | refine ff ?_ (by rintro ⟨_, _, _⟩; omega) | intro _ _); cbv)); exact hu.symm⟩
def ofR' (us : List U) (u : U) : Prop := ∃ c i xs x, (∀ t ∈ c, LB t.q) ∧ cnt c ≤ 1000000 ∧ (∀ a ∈ xs, LB a) ∧ cnt xs ≤ 1000000 ∧ nilEq x (qsU xs) ∧ us = [cU c, ui i, x] ∧ u = uR4 (ofS c i xs)
theorem of_ok' : SoundF Try.prog 6 ofR' := relax of_ok fun us u ⟨c, i, xs, x, h1, h2, h3, h4, h5, h6, h7⟩ => ⟨_, u, ⟨c, i, xs, h1, h2, h3, h4, rfl, h7⟩, by rw [h6]; exact ⟨.inl rfl, .inl rfl, h5, trivial⟩, .inl rfl⟩
theorem LB_q {q : Rat} (h : fits q = true) : LB (ratOf q) := (LR_ratOf h).wide
theorem quot_LB : ∀ t ∈ quotC, LB t.q := fun t h => by
  unfold quotC at h
  simp only [List.mem_cons, List.not_mem_nil, or_false] at h
  rcases h with rfl | rfl | rfl | rfl | rfl <;> first | exact LB_none | exact LB_q fits_one
theorem w1 : ofS quotC 4 [ratOf 3, ratOf 2] = to4 (ratOf (1 / 2)) := by decide +kernel
theorem w2 : ofS quotC 4 [ratOf 3, ratOf 0] = bad 3 := by decide +kernel
theorem w3 : ofS quotC 4 [ratOf 3] = bad 1 := by decide +kernel
theorem w4 : ofS quotC 3 [] = to4 (ratOf 1) := by decide +kernel
theorem w5 : ofS quotC 5 [ratOf 3, ratOf 2] = bad 1 := by decide +kernel
theorem w6 : divS' quotC 4 [ratOf 3, ratOf 2] = ([1], 0) := by decide +kernel
theorem w7 : mayC quotC 2 = true ∧ needs quotC 2 = [true, true, true, false, false] := by decide +kernel
def yesR (us : List U) (u : U) : Prop := us = [] ∧ u = ub true
theorem wakes_ok : SoundF Try.prog 5 yesR := sound [(14, byR), (15, quotR), (6, ofR'), (16, divR), (19, needsR), (11, keepR), (17, keepIntsR), (18, keepBoolsR)] (orc_cons by_ok (orc_cons quot_ok (orc_cons of_ok' (orc_cons div_ok (orc_cons needs_ok (orc_cons keep_ok (orc_cons keepInts_ok (orc_cons keepBools_ok orc_nil)))))))) Try.func5 (by kernel_rfl) (by kernel_rfl) fun us u hR => ⟨0, fun C E hC => by
  obtain ⟨rfl, hu⟩ := hR
  have kb := hC 14 byR (by simp)
  obtain ⟨s3, l3, d3, b3, e3⟩ := by_q kb 3 1 3 (by decide) (by decide +kernel) (by decide +kernel)
  obtain ⟨s2, l2, d2, b2, e2⟩ := by_q kb 2 1 2 (by decide) (by decide +kernel) (by decide +kernel)
  obtain ⟨s0, l0, d0, b0, e0⟩ := by_q kb 0 1 0 (by decide) (by decide +kernel) (by decide +kernel)
  obtain ⟨sh, lh, dh, bh, eh⟩ := by_q kb 1 2 (1 / 2) (by decide) (by decide +kernel) (by decide +kernel)
  obtain ⟨s1, l1, d1, b1, e1⟩ := by_q kb 1 1 1 (by decide) (by decide +kernel) (by decide +kernel)
  have kq := hC 15 quotR (by simp) _ _ ⟨rfl, rfl⟩
  have L3 : LB (s3, l3, d3) := e3 ▸ LB_q (by decide +kernel)
  have L2 : LB (s2, l2, d2) := e2 ▸ LB_q (by decide +kernel)
  have L0 : LB (s0, l0, d0) := e0 ▸ LB_q (by decide +kernel)
  have L32 : ∀ a ∈ [(s3, l3, d3), (s2, l2, d2)], LB a := by simp [L3, L2]
  have c5 : cnt quotC ≤ 1000000 := by decide
  have cc : ∀ a b : R3, cnt [a, b] ≤ 1000000 := fun _ _ => by unfold cnt; simp
  have c1 : ∀ a : R3, cnt [a] ≤ 1000000 := fun _ => by unfold cnt; simp
  have o1 := hC 6 ofR' (by simp) _ _ ⟨quotC, 4, [(s3, l3, d3), (s2, l2, d2)], _, quot_LB, c5, L32, cc _ _, .inl rfl, rfl, rfl⟩
  have o2 := hC 6 ofR' (by simp) _ _ ⟨quotC, 4, [(s3, l3, d3), (s0, l0, d0)], _, quot_LB, c5, by simp [L3, L0], cc _ _, .inl rfl, rfl, rfl⟩
  have o3 := hC 6 ofR' (by simp) _ _ ⟨quotC, 4, [(s3, l3, d3)], _, quot_LB, c5, by simp [L3], c1 _, .inl rfl, rfl, rfl⟩
  have o4 := hC 6 ofR' (by simp) _ _ ⟨quotC, 3, [], nilU, quot_LB, c5, by simp, by decide, .inr ⟨rfl, 3, rfl⟩, rfl, rfl⟩
  have o5 := hC 6 ofR' (by simp) _ _ ⟨quotC, 5, [(s3, l3, d3), (s2, l2, d2)], _, quot_LB, c5, L32, cc _ _, .inl rfl, rfl, rfl⟩
  have o6 := hC 16 divR (by simp) _ _ ⟨quotC, 4, [(s3, l3, d3), (s2, l2, d2)], quot_LB, c5, L32, cc _ _, rfl, rfl⟩
  have o7 := hC 19 needsR (by simp) _ _ ⟨quotC, 2, quot_LB, c5, rfl, rfl⟩
  rw [show ofS quotC 4 [(s3, l3, d3), (s2, l2, d2)] = (sh, lh, dh, 0) by rw [e3, e2, w1, ← eh]; rfl] at o1
  rw [show ofS quotC 4 [(s3, l3, d3), (s0, l0, d0)] = bad 3 by rw [e3, e0, w2]] at o2
  rw [show ofS quotC 4 [(s3, l3, d3)] = bad 1 by rw [e3, w3]] at o3
  rw [show ofS quotC 3 [] = (s1, l1, d1, 0) by rw [w4, ← e1]; rfl] at o4
  rw [show ofS quotC 5 [(s3, l3, d3), (s2, l2, d2)] = bad 1 by rw [e3, e2, w5]] at o5
  rw [show divS' quotC 4 [(s3, l3, d3), (s2, l2, d2)] = ([1], 0) by rw [e3, e2, w6]] at o6
  unfold needsU at o7
  rw [if_pos w7.1, show (2 : Int).toNat = 2 by rfl, w7.2] at o7
  have r1 := hC 11 keepR (by simp) _ _ ⟨(sh, lh, dh), (sh, lh, dh), by rw [eh]; decide +kernel, by rw [eh]; decide +kernel, rfl, rfl⟩
  have r2 := hC 11 keepR (by simp) _ _ ⟨(s1, l1, d1), (s1, l1, d1), by rw [e1]; decide +kernel, by rw [e1]; decide +kernel, rfl, rfl⟩
  have r3 := hC 17 keepIntsR (by simp) _ _ ⟨[1], [1], by decide, rfl, rfl⟩
  have r4 := hC 18 keepBoolsR (by simp) _ _ ⟨[true, true, true, false, false], [true, true, true, false, false], by decide, rfl, rfl⟩
  rw [decide_eq_true rfl] at r1 r2 r3 r4
  obtain ⟨cs, hcs⟩ : ∃ cs, cU quotC = .s 7 cs := ⟨_, rfl⟩
  rw [hcs] at o1 o2 o3 o4 o5 o6 o7 kq
  have o1 : C 6 [.s 7 cs, ui 4, .s 3 [[ub s3, .l l3, .l d3], [ub s2, .l l2, .l d2]]] (.tup [.agg [ub sh, .l lh, .l dh], ui 0]) := o1
  have o2 : C 6 [.s 7 cs, ui 4, .s 3 [[ub s3, .l l3, .l d3], [ub s0, .l l0, .l d0]]] (.tup [.agg [ub false, .l [], .l []], ui 3]) := o2
  have o3 : C 6 [.s 7 cs, ui 4, .s 3 [[ub s3, .l l3, .l d3]]] (.tup [.agg [ub false, .l [], .l []], ui 1]) := o3
  have o4 : C 6 [.s 7 cs, ui 3, nilU] (.tup [.agg [ub s1, .l l1, .l d1], ui 0]) := o4
  have o5 : C 6 [.s 7 cs, ui 5, .s 3 [[ub s3, .l l3, .l d3], [ub s2, .l l2, .l d2]]] (.tup [.agg [ub false, .l [], .l []], ui 1]) := o5
  have o6 : C 16 [.s 7 cs, ui 4, .s 3 [[ub s3, .l l3, .l d3], [ub s2, .l l2, .l d2]]] (.tup [.s 1 [[ui 1]], ui 0]) := o6
  have o7 : C 19 [.s 7 cs, ui 2] (.s 1 [[ub true], [ub true], [ub true], [ub false], [ub false]]) := o7
  have r1 : C 11 [.agg [ub sh, .l lh, .l dh], .agg [ub sh, .l lh, .l dh]] (ub true) := r1
  have r2 : C 11 [.agg [ub s1, .l l1, .l d1], .agg [ub s1, .l l1, .l d1]] (ub true) := r2
  have r3 : C 17 [.s 1 [[ui 1]], .s 1 [[ui 1]]] (ub true) := r3
  have r4 : C 18 [.s 1 [[ub true], [ub true], [ub true], [ub false], [ub false]], .s 1 [[ub true], [ub true], [ub true], [ub false], [ub false]]] (ub true) := r4
  clear kb hC L3 L2 L0 L32 cc c1 c5 hcs e0 e1 e2 e3 eh
  cbv
  (repeat ((first | with_reducible refine ln fun _ _ _ => ?_ | refine tt ?_ | refine ff ?_ | with_reducible refine wr fun _ _ => ?_ | with_reducible refine wu fun _ _ => ?_ | refine rp fun _ _ _ => ?_ | refine cp fun _ => ?_ | with_reducible refine bq ?_ | refine cl ?_ | refine sd ?_ | refine tt ?_ (by refine ⟨?_, ?_, ?_, ?_, ?_⟩ <;> first | omega | exact True.intro) | refine tt ?_ (by refine ⟨?_, ?_, ?_, ?_⟩ <;> first | omega | exact True.intro) | refine tt ?_ (by refine ⟨?_, ?_, ?_⟩ <;> first | omega | exact True.intro) | refine ff ?_ (by rintro ⟨_, _, _, _, _⟩; omega) | refine ff ?_ (by rintro ⟨_, _, _, _⟩; omega) | refine ff ?_ (by rintro ⟨_, _, _⟩; omega)); cbv))
  refine el (us := [ub s3, .l l3, .l d3]) ?_ (by decide) rfl
  cbv
  (repeat ((first | with_reducible refine ln fun _ _ _ => ?_ | refine tt ?_ | refine ff ?_ | with_reducible refine wr fun _ _ => ?_ | with_reducible refine wu fun _ _ => ?_ | refine rp fun _ _ _ => ?_ | refine cp fun _ => ?_ | with_reducible refine bq ?_ | refine cl ?_ | refine sd ?_ | refine tt ?_ (by refine ⟨?_, ?_, ?_, ?_, ?_⟩ <;> first | omega | exact True.intro) | refine tt ?_ (by refine ⟨?_, ?_, ?_, ?_⟩ <;> first | omega | exact True.intro) | refine tt ?_ (by refine ⟨?_, ?_, ?_⟩ <;> first | omega | exact True.intro) | refine ff ?_ (by rintro ⟨_, _, _, _, _⟩; omega) | refine ff ?_ (by rintro ⟨_, _, _, _⟩; omega) | refine ff ?_ (by rintro ⟨_, _, _⟩; omega)); cbv))
  refine sd ?_ (by unfold cnt; simp)
  intro ys hys
  obtain rfl : ys = [[ub s3, .l l3, .l d3]] := hys
  cbv
  (repeat ((first | with_reducible refine ln fun _ _ _ => ?_ | refine tt ?_ | refine ff ?_ | with_reducible refine wr fun _ _ => ?_ | with_reducible refine wu fun _ _ => ?_ | refine rp fun _ _ _ => ?_ | refine cp fun _ => ?_ | with_reducible refine bq ?_ | refine cl ?_ | refine sd ?_ | refine tt ?_ (by refine ⟨?_, ?_, ?_, ?_, ?_⟩ <;> first | omega | exact True.intro) | refine tt ?_ (by refine ⟨?_, ?_, ?_, ?_⟩ <;> first | omega | exact True.intro) | refine tt ?_ (by refine ⟨?_, ?_, ?_⟩ <;> first | omega | exact True.intro) | refine ff ?_ (by rintro ⟨_, _, _, _, _⟩; omega) | refine ff ?_ (by rintro ⟨_, _, _, _⟩; omega) | refine ff ?_ (by rintro ⟨_, _, _⟩; omega)); cbv))
  exact hu.symm⟩
end Go.Proofs.Ytheciiemknmnoaa.Rd
end
section
set_option linter.unusedVariables false
set_option linter.unusedSimpArgs false
set_option maxRecDepth 100000
set_option maxHeartbeats 4000000
namespace Go.Proofs.Ytheciiemknmnoaa.Rd
open Go Go.RowKit Go.Proofs.YtheciiemknmnoaaW.PrintWords Go.Proofs.Ytheciiemknmnoaa.PL Go.Proofs.Ytheciiemknmnoaa.Num

def sumC (k : Int) (b : R3) : List Tm := [⟨2, 0, 0, 0, none3⟩, ⟨1, 0, 0, 0, b⟩, ⟨k, 0, 1, 0, none3⟩]
def opS (k : Int) (a b : R3) : R4 := if k = 3 then addS a b else if k = 4 then subS a b else if k = 5 then mulS a b else divS a b
structure Shape (r : R4) : Prop where
  lr : LR (to3 r)
  bad : r.2.2.2 ≠ 0 → r = bad r.2.2.2
theorem LR_none : LR none3 := ⟨Limbs.nil, Limbs.nil, by decide, by decide⟩
theorem shape_bad (e : Int) : Shape (bad e) := ⟨LR_none, fun _ => rfl⟩
theorem shape_lim (q : Rat) : Shape (lim q) := by
  unfold lim
  split
  · rename_i h
    exact ⟨LR_ratOf h, fun h => absurd rfl h⟩
  · exact shape_bad 2
theorem shape_op (k : Int) (a b : R3) : Shape (opS k a b) := by
  unfold opS addS subS mulS divS
  repeat' split
  all_goals first | exact shape_lim _ | exact shape_bad _
theorem shape_eq {r : R4} (h : Shape r) : (if r.2.2.2 = 0 then to4 (to3 r) else bad r.2.2.2) = r := by
  obtain ⟨s, l, d, e⟩ := r
  split
  · rename_i h0
    have h0 : e = 0 := h0
    rw [h0]
    rfl
  · rename_i h0
    exact (h.bad h0).symm
theorem sum_good {k : Int} {b : R3} (hk : k = 3 ∨ k = 4 ∨ k = 5 ∨ k = 6) (hb : goodB b = true) : goodC (sumC k b) = true := by
  refine goodC_iff.2 fun i t ht => ?_
  unfold sumC at ht
  match i, ht with
  | 0, ht =>
    injection ht with ht
    subst ht
    rfl
  | 1, ht =>
    injection ht with ht
    subst ht
    show (true && goodB b) = true
    rw [hb]
    rfl
  | 2, ht =>
    injection ht with ht
    subst ht
    rcases hk with rfl | rfl | rfl | rfl <;> rfl
theorem sum_2 {k : Int} {a b : R3} (hk : k = 3 ∨ k = 4 ∨ k = 5 ∨ k = 6) (ha : goodB a = true) (hb : goodB b = true) : ofS (sumC k b) 2 [a] = opS k a b := by
  have hn : needs (sumC k b) (2 : Int).toNat = [true, true, true] := by rcases hk with rfl | rfl | rfl | rfl <;> rfl
  have hm : madeB (sumC k b) 2 [a] = true := by
    unfold madeB mayC
    rw [sum_good hk hb, hn]
    simp only [Bool.and_true, List.all_cons, List.all_nil, ha]
    rcases hk with rfl | rfl | rfl | rfl <;> rfl
  have he : evN (sumC k b) [a] [true, true, true] 3 = if (opS k a b).2.2.2 = 0 then ([a, b, to3 (opS k a b)], 0) else ([a, b, none3], (opS k a b).2.2.2) := by
    have h2 : evN (sumC k b) [a] [true, true, true] 2 = ([a, b, none3], 0) := by
      show ([ownS a, ownS b, none3], (0 : Int)) = _
      rw [own_good ha, own_good hb]
    rw [evN, h2, if_pos rfl, evStep, if_pos (show [true, true, true][2]? = some true from rfl)]
    have ht : evT [a, b, none3] [a] ⟨k, 0, 1, 0, none3⟩ = opS k a b := by rcases hk with rfl | rfl | rfl | rfl <;> rfl
    show (if (evT [a, b, none3] [a] ⟨k, 0, 1, 0, none3⟩).2.2.2 = 0 then _ else _) = _
    rw [ht]
    rfl
  unfold ofS
  rw [if_pos hm, hn, show (2 : Int).toNat + 1 = 3 by rfl, he]
  have hs := shape_eq (shape_op k a b)
  by_cases h0 : (opS k a b).2.2.2 = 0
  · rw [if_pos h0] at hs ⊢
    exact hs
  · rw [if_neg h0] at hs ⊢
    show (if (opS k a b).2.2.2 = 0 then _ else bad (opS k a b).2.2.2) = _
    rw [if_neg h0]
    exact hs
theorem sum_0 {k : Int} {a b : R3} (hk : k = 3 ∨ k = 4 ∨ k = 5 ∨ k = 6) (ha : goodB a = true) (hb : goodB b = true) : ofS (sumC k b) 0 [a] = to4 a := by
  have hn : needs (sumC k b) (0 : Int).toNat = [true, false, false] := by rcases hk with rfl | rfl | rfl | rfl <;> rfl
  have hm : madeB (sumC k b) 0 [a] = true := by
    unfold madeB mayC
    rw [sum_good hk hb, hn]
    simp only [Bool.and_true, List.all_cons, List.all_nil, ha]
    rcases hk with rfl | rfl | rfl | rfl <;> rfl
  unfold ofS
  rw [if_pos hm, hn]
  show to4 (ownS a) = _
  rw [own_good ha]
def sumsR (us : List U) (u : U) : Prop := ∃ (a b : R3) (k : Int), LB a ∧ LB b ∧ 0 ≤ k ∧ k ≤ 255 ∧ us = [uR a, uR b, .v (.int .u8 k)] ∧ u = ub true
theorem len64 {s : Bool} {l d : List Int} (h : goodB (s, l, d) = true) : cnt l ≤ 64 ∧ cnt d ≤ 64 := by
  obtain ⟨p, hp, _, _, _, h1, h2, _⟩ := good_parts h
  exact ⟨h1, h2⟩
theorem tmod4 {k r : Int} (h0 : 0 ≤ k) (h : r = Int.tmod k 4) : r = 0 ∨ r = 1 ∨ r = 2 ∨ r = 3 := by
  rw [Int.tmod_eq_emod_of_nonneg h0] at h
  omega
theorem sums_ok : SoundF Try.prog 3 sumsR := sound [(4, goodR), (5, yesR), (6, ofR), (7, twoR addS), (8, twoR subS), (9, twoR mulS), (10, twoR divS), (11, keepR)] (orc_cons good7_ok (orc_cons wakes_ok (orc_cons of_ok (orc_cons rAdd_ok (orc_cons rSub_ok (orc_cons rMul_ok (orc_cons rDiv_ok (orc_cons keep_ok orc_nil)))))))) Try.func3 (by kernel_rfl) (by kernel_rfl) fun us u hR => ⟨0, fun C E hC => by
  obtain ⟨⟨s1, l1, d1⟩, ⟨s2, l2, d2⟩, k, ha, hb, k0, k1, rfl, hu⟩ := hR
  have g1 := hC 4 goodR (by simp) _ _ ⟨_, ha, rfl, rfl⟩
  have g2 := hC 4 goodR (by simp) _ _ ⟨_, hb, rfl, rfl⟩
  have kw := hC 5 yesR (by simp) _ _ ⟨rfl, rfl⟩
  have n1 := len64 (s := s1) (l := l1) (d := d1)
  have n2 := len64 (s := s2) (l := l2) (d := d2)
  have ho := fun (k : Int) (i : Int) (x : R4) (hk : k = 3 ∨ k = 4 ∨ k = 5 ∨ k = 6) (hx : ofS (sumC k (s2, l2, d2)) i [(s1, l1, d1)] = x) => hx ▸ hC 6 ofR (by simp) _ _ ⟨sumC k (s2, l2, d2), i, [(s1, l1, d1)], by unfold sumC; simp only [List.mem_cons, List.not_mem_nil, or_false]; rintro t (rfl | rfl | rfl) <;> first | exact LB_none | exact hb, by unfold sumC cnt; simp, by simp [ha], by unfold cnt; simp, rfl, rfl⟩
  have h2 := fun k hk h1 h2 => ho k 2 _ hk (sum_2 hk h1 h2)
  have h0 := fun k hk h1 h2 => ho k 0 _ hk (sum_0 hk h1 h2)
  clear ho
  have hA := hC 7 (twoR addS) (by simp) _ _ ⟨_, _, ha, hb, rfl, rfl⟩
  have hS := hC 8 (twoR subS) (by simp) _ _ ⟨_, _, ha, hb, rfl, rfl⟩
  have hM := hC 9 (twoR mulS) (by simp) _ _ ⟨_, _, ha, hb, rfl, rfl⟩
  have hD := hC 10 (twoR divS) (by simp) _ _ ⟨_, _, ha, hb, rfl, rfl⟩
  have hK := fun (a : R3) (h : LR a) => hC 11 keepR (by simp) _ _ ⟨a, a, by have := h.lt; unfold cnt; omega, by have := h.lb; unfold cnt; omega, rfl, rfl⟩
  have hL : ∀ k, LR (to3 (opS k (s1, l1, d1) (s2, l2, d2))) := fun k => (shape_op k _ _).lr
  have hLa : goodB (s1, l1, d1) = true → LR (s1, l1, d1) := fun h => by
    obtain ⟨q, hq, e⟩ := good_iff.1 h
    rw [e]
    exact LR_ratOf hq
  clear ha hb hC
  generalize goodB (s1, l1, d1) = b1 at *
  generalize goodB (s2, l2, d2) = b2 at *
  cases b1
  · clear h0 h2 hA hS hM hD hK hL hLa n1 n2
    cbv
    (repeat ((first | with_reducible refine ln fun _ _ _ => ?_ | refine tt ?_ | refine ff ?_ | with_reducible refine wr fun _ _ => ?_ | with_reducible refine wu fun _ _ => ?_ | refine rp fun _ _ _ => ?_ | refine cp fun _ => ?_ | with_reducible refine bq ?_ | refine cl ?_ | refine sd ?_ | refine tt ?_ (by refine ⟨?_, ?_, ?_, ?_, ?_⟩ <;> first | omega | exact True.intro) | refine tt ?_ (by refine ⟨?_, ?_, ?_, ?_⟩ <;> first | omega | exact True.intro) | refine tt ?_ (by refine ⟨?_, ?_, ?_⟩ <;> first | omega | exact True.intro) | refine ff ?_ (by rintro ⟨_, _, _, _, _⟩; omega) | refine ff ?_ (by rintro ⟨_, _, _, _⟩; omega) | refine ff ?_ (by rintro ⟨_, _, _⟩; omega)); cbv))
    exact hu.symm
  cases b2
  · clear h0 h2 hA hS hM hD hK hL hLa n1 n2
    cbv
    (repeat ((first | with_reducible refine ln fun _ _ _ => ?_ | refine tt ?_ | refine ff ?_ | with_reducible refine wr fun _ _ => ?_ | with_reducible refine wu fun _ _ => ?_ | refine rp fun _ _ _ => ?_ | refine cp fun _ => ?_ | with_reducible refine bq ?_ | refine cl ?_ | refine sd ?_ | refine tt ?_ (by refine ⟨?_, ?_, ?_, ?_, ?_⟩ <;> first | omega | exact True.intro) | refine tt ?_ (by refine ⟨?_, ?_, ?_, ?_⟩ <;> first | omega | exact True.intro) | refine tt ?_ (by refine ⟨?_, ?_, ?_⟩ <;> first | omega | exact True.intro) | refine ff ?_ (by rintro ⟨_, _, _, _, _⟩; omega) | refine ff ?_ (by rintro ⟨_, _, _, _⟩; omega) | refine ff ?_ (by rintro ⟨_, _, _⟩; omega)); cbv))
    exact hu.symm
  have n1 := n1 rfl
  have n2 := n2 rfl
  have c1 := cnt0 l1
  have c2 := cnt0 l2
  have c3 := cnt0 d1
  have c4 := cnt0 d2
  cbv
  rcases Decidable.em (100 < cnt l1 + cnt l2 + cnt d1 + cnt d2) with hc | hc
  · clear h0 h2 hA hS hM hD hK hL hLa
    (repeat ((first | with_reducible refine ln fun _ _ _ => ?_ | refine tt ?_ | refine ff ?_ | with_reducible refine wr fun _ _ => ?_ | with_reducible refine wu fun _ _ => ?_ | refine rp fun _ _ _ => ?_ | refine cp fun _ => ?_ | with_reducible refine bq ?_ | refine cl ?_ | refine sd ?_ | refine tt ?_ (by refine ⟨?_, ?_, ?_, ?_, ?_⟩ <;> first | omega | exact True.intro) | refine tt ?_ (by refine ⟨?_, ?_, ?_, ?_⟩ <;> first | omega | exact True.intro) | refine tt ?_ (by refine ⟨?_, ?_, ?_⟩ <;> first | omega | exact True.intro) | refine ff ?_ (by rintro ⟨_, _, _, _, _⟩; omega) | refine ff ?_ (by rintro ⟨_, _, _, _⟩; omega) | refine ff ?_ (by rintro ⟨_, _, _⟩; omega)); cbv))
    exact hu.symm
  (repeat ((first | with_reducible refine ln fun _ _ _ => ?_ | refine tt ?_ | refine ff ?_ | with_reducible refine wr fun _ _ => ?_ | with_reducible refine wu fun _ _ => ?_ | refine rp fun _ _ _ => ?_ | refine cp fun _ => ?_ | with_reducible refine bq ?_ | refine cl ?_ | refine sd ?_ | refine tt ?_ (by refine ⟨?_, ?_, ?_, ?_, ?_⟩ <;> first | omega | exact True.intro) | refine tt ?_ (by refine ⟨?_, ?_, ?_, ?_⟩ <;> first | omega | exact True.intro) | refine tt ?_ (by refine ⟨?_, ?_, ?_⟩ <;> first | omega | exact True.intro) | refine ff ?_ (by rintro ⟨_, _, _, _, _⟩; omega) | refine ff ?_ (by rintro ⟨_, _, _, _⟩; omega) | refine ff ?_ (by rintro ⟨_, _, _⟩; omega)); cbv))
  intro r hr
  rename_i x hx
  have hr := tmod4 (by omega) hr
  have hLa := hLa rfl
  have r2 := hK _ hLa
  rw [decide_eq_true rfl] at r2
  have r2 : C 11 [.agg [ub s1, .l l1, .l d1], .agg [ub s1, .l l1, .l d1]] (ub true) := r2
  clear n1 n2 c1 c2 c3 c4 hc hx k0 k1
  cbv
  rcases hr with hr | hr | hr | hr
  · subst hr
    obtain ⟨s5, l5, d5, e5, f2, p5⟩ := tR4 (h2 3 (by simp) rfl rfl)
    have f0 := h0 3 (by simp) rfl rfl
    have f2 : C 6 [.s 7 [[ui 2, ui 0, ui 0, ui 0, ub false, .l [], .l []], [ui 1, ui 0, ui 0, ui 0, ub s2, .l l2, .l d2], [ui 3, ui 0, ui 1, ui 0, ub false, .l [], .l []]], ui 2, .s 3 [[ub s1, .l l1, .l d1]]] (.tup [.agg [ub s5, .l l5, .l d5], ui e5]) := f2
    have f0 : C 6 [.s 7 [[ui 2, ui 0, ui 0, ui 0, ub false, .l [], .l []], [ui 1, ui 0, ui 0, ui 0, ub s2, .l l2, .l d2], [ui 3, ui 0, ui 1, ui 0, ub false, .l [], .l []]], ui 0, .s 3 [[ub s1, .l l1, .l d1]]] (.tup [.agg [ub s1, .l l1, .l d1], ui 0]) := f0
    rw [show addS (s1, l1, d1) (s2, l2, d2) = (s5, l5, d5, e5) by rw [p5]; rfl] at hA
    have hA : C _ [.agg [ub s1, .l l1, .l d1], .agg [ub s2, .l l2, .l d2]] (.tup [.agg [ub s5, .l l5, .l d5], ui e5]) := hA
    have r1 := hK (s5, l5, d5) (by have := hL 3; rw [← p5] at this; exact this)
    rw [decide_eq_true rfl] at r1
    have r1 : C 11 [.agg [ub s5, .l l5, .l d5], .agg [ub s5, .l l5, .l d5]] (ub true) := r1
    clear h0 h2 hK hL hLa p5
    refine el (us := [ui 3]) ?_ (by decide) rfl
    cbv
    (repeat ((first | with_reducible refine ln fun _ _ _ => ?_ | refine tt ?_ | refine ff ?_ | with_reducible refine wr fun _ _ => ?_ | with_reducible refine wu fun _ _ => ?_ | refine rp fun _ _ _ => ?_ | refine cp fun _ => ?_ | with_reducible refine bq ?_ | refine cl ?_ | refine sd ?_ | refine tt ?_ (by refine ⟨?_, ?_, ?_, ?_, ?_⟩ <;> first | omega | exact True.intro) | refine tt ?_ (by refine ⟨?_, ?_, ?_, ?_⟩ <;> first | omega | exact True.intro) | refine tt ?_ (by refine ⟨?_, ?_, ?_⟩ <;> first | omega | exact True.intro) | refine ff ?_ (by rintro ⟨_, _, _, _, _⟩; omega) | refine ff ?_ (by rintro ⟨_, _, _, _⟩; omega) | refine ff ?_ (by rintro ⟨_, _, _⟩; omega)); cbv))
    exact hu.symm
  · subst hr
    obtain ⟨s5, l5, d5, e5, f2, p5⟩ := tR4 (h2 4 (by simp) rfl rfl)
    have f0 := h0 4 (by simp) rfl rfl
    have f2 : C 6 [.s 7 [[ui 2, ui 0, ui 0, ui 0, ub false, .l [], .l []], [ui 1, ui 0, ui 0, ui 0, ub s2, .l l2, .l d2], [ui 4, ui 0, ui 1, ui 0, ub false, .l [], .l []]], ui 2, .s 3 [[ub s1, .l l1, .l d1]]] (.tup [.agg [ub s5, .l l5, .l d5], ui e5]) := f2
    have f0 : C 6 [.s 7 [[ui 2, ui 0, ui 0, ui 0, ub false, .l [], .l []], [ui 1, ui 0, ui 0, ui 0, ub s2, .l l2, .l d2], [ui 4, ui 0, ui 1, ui 0, ub false, .l [], .l []]], ui 0, .s 3 [[ub s1, .l l1, .l d1]]] (.tup [.agg [ub s1, .l l1, .l d1], ui 0]) := f0
    rw [show subS (s1, l1, d1) (s2, l2, d2) = (s5, l5, d5, e5) by rw [p5]; rfl] at hS
    have hS : C _ [.agg [ub s1, .l l1, .l d1], .agg [ub s2, .l l2, .l d2]] (.tup [.agg [ub s5, .l l5, .l d5], ui e5]) := hS
    obtain ⟨s6, l6, d6, e6, hA, _⟩ := tR4 hA
    have r1 := hK (s5, l5, d5) (by have := hL 4; rw [← p5] at this; exact this)
    rw [decide_eq_true rfl] at r1
    have r1 : C 11 [.agg [ub s5, .l l5, .l d5], .agg [ub s5, .l l5, .l d5]] (ub true) := r1
    clear h0 h2 hK hL hLa p5
    refine el (us := [ui 4]) ?_ (by decide) rfl
    cbv
    (repeat ((first | with_reducible refine ln fun _ _ _ => ?_ | refine tt ?_ | refine ff ?_ | with_reducible refine wr fun _ _ => ?_ | with_reducible refine wu fun _ _ => ?_ | refine rp fun _ _ _ => ?_ | refine cp fun _ => ?_ | with_reducible refine bq ?_ | refine cl ?_ | refine sd ?_ | refine tt ?_ (by refine ⟨?_, ?_, ?_, ?_, ?_⟩ <;> first | omega | exact True.intro) | refine tt ?_ (by refine ⟨?_, ?_, ?_, ?_⟩ <;> first | omega | exact True.intro) | refine tt ?_ (by refine ⟨?_, ?_, ?_⟩ <;> first | omega | exact True.intro) | refine ff ?_ (by rintro ⟨_, _, _, _, _⟩; omega) | refine ff ?_ (by rintro ⟨_, _, _, _⟩; omega) | refine ff ?_ (by rintro ⟨_, _, _⟩; omega)); cbv))
    exact hu.symm
  · subst hr
    obtain ⟨s5, l5, d5, e5, f2, p5⟩ := tR4 (h2 5 (by simp) rfl rfl)
    have f0 := h0 5 (by simp) rfl rfl
    have f2 : C 6 [.s 7 [[ui 2, ui 0, ui 0, ui 0, ub false, .l [], .l []], [ui 1, ui 0, ui 0, ui 0, ub s2, .l l2, .l d2], [ui 5, ui 0, ui 1, ui 0, ub false, .l [], .l []]], ui 2, .s 3 [[ub s1, .l l1, .l d1]]] (.tup [.agg [ub s5, .l l5, .l d5], ui e5]) := f2
    have f0 : C 6 [.s 7 [[ui 2, ui 0, ui 0, ui 0, ub false, .l [], .l []], [ui 1, ui 0, ui 0, ui 0, ub s2, .l l2, .l d2], [ui 5, ui 0, ui 1, ui 0, ub false, .l [], .l []]], ui 0, .s 3 [[ub s1, .l l1, .l d1]]] (.tup [.agg [ub s1, .l l1, .l d1], ui 0]) := f0
    rw [show mulS (s1, l1, d1) (s2, l2, d2) = (s5, l5, d5, e5) by rw [p5]; rfl] at hM
    have hM : C _ [.agg [ub s1, .l l1, .l d1], .agg [ub s2, .l l2, .l d2]] (.tup [.agg [ub s5, .l l5, .l d5], ui e5]) := hM
    obtain ⟨s6, l6, d6, e6, hA, _⟩ := tR4 hA
    have r1 := hK (s5, l5, d5) (by have := hL 5; rw [← p5] at this; exact this)
    rw [decide_eq_true rfl] at r1
    have r1 : C 11 [.agg [ub s5, .l l5, .l d5], .agg [ub s5, .l l5, .l d5]] (ub true) := r1
    clear h0 h2 hK hL hLa p5
    refine el (us := [ui 5]) ?_ (by decide) rfl
    cbv
    (repeat ((first | with_reducible refine ln fun _ _ _ => ?_ | refine tt ?_ | refine ff ?_ | with_reducible refine wr fun _ _ => ?_ | with_reducible refine wu fun _ _ => ?_ | refine rp fun _ _ _ => ?_ | refine cp fun _ => ?_ | with_reducible refine bq ?_ | refine cl ?_ | refine sd ?_ | refine tt ?_ (by refine ⟨?_, ?_, ?_, ?_, ?_⟩ <;> first | omega | exact True.intro) | refine tt ?_ (by refine ⟨?_, ?_, ?_, ?_⟩ <;> first | omega | exact True.intro) | refine tt ?_ (by refine ⟨?_, ?_, ?_⟩ <;> first | omega | exact True.intro) | refine ff ?_ (by rintro ⟨_, _, _, _, _⟩; omega) | refine ff ?_ (by rintro ⟨_, _, _, _⟩; omega) | refine ff ?_ (by rintro ⟨_, _, _⟩; omega)); cbv))
    exact hu.symm
  · subst hr
    obtain ⟨s5, l5, d5, e5, f2, p5⟩ := tR4 (h2 6 (by simp) rfl rfl)
    have f0 := h0 6 (by simp) rfl rfl
    have f2 : C 6 [.s 7 [[ui 2, ui 0, ui 0, ui 0, ub false, .l [], .l []], [ui 1, ui 0, ui 0, ui 0, ub s2, .l l2, .l d2], [ui 6, ui 0, ui 1, ui 0, ub false, .l [], .l []]], ui 2, .s 3 [[ub s1, .l l1, .l d1]]] (.tup [.agg [ub s5, .l l5, .l d5], ui e5]) := f2
    have f0 : C 6 [.s 7 [[ui 2, ui 0, ui 0, ui 0, ub false, .l [], .l []], [ui 1, ui 0, ui 0, ui 0, ub s2, .l l2, .l d2], [ui 6, ui 0, ui 1, ui 0, ub false, .l [], .l []]], ui 0, .s 3 [[ub s1, .l l1, .l d1]]] (.tup [.agg [ub s1, .l l1, .l d1], ui 0]) := f0
    rw [show divS (s1, l1, d1) (s2, l2, d2) = (s5, l5, d5, e5) by rw [p5]; rfl] at hD
    have hD : C _ [.agg [ub s1, .l l1, .l d1], .agg [ub s2, .l l2, .l d2]] (.tup [.agg [ub s5, .l l5, .l d5], ui e5]) := hD
    obtain ⟨s6, l6, d6, e6, hA, _⟩ := tR4 hA
    have r1 := hK (s5, l5, d5) (by have := hL 6; rw [← p5] at this; exact this)
    rw [decide_eq_true rfl] at r1
    have r1 : C 11 [.agg [ub s5, .l l5, .l d5], .agg [ub s5, .l l5, .l d5]] (ub true) := r1
    clear h0 h2 hK hL hLa p5
    refine el (us := [ui 6]) ?_ (by decide) rfl
    cbv
    (repeat ((first | with_reducible refine ln fun _ _ _ => ?_ | refine tt ?_ | refine ff ?_ | with_reducible refine wr fun _ _ => ?_ | with_reducible refine wu fun _ _ => ?_ | refine rp fun _ _ _ => ?_ | refine cp fun _ => ?_ | with_reducible refine bq ?_ | refine cl ?_ | refine sd ?_ | refine tt ?_ (by refine ⟨?_, ?_, ?_, ?_, ?_⟩ <;> first | omega | exact True.intro) | refine tt ?_ (by refine ⟨?_, ?_, ?_, ?_⟩ <;> first | omega | exact True.intro) | refine tt ?_ (by refine ⟨?_, ?_, ?_⟩ <;> first | omega | exact True.intro) | refine ff ?_ (by rintro ⟨_, _, _, _, _⟩; omega) | refine ff ?_ (by rintro ⟨_, _, _, _⟩; omega) | refine ff ?_ (by rintro ⟨_, _, _⟩; omega)); cbv))
    exact hu.symm⟩
end Go.Proofs.Ytheciiemknmnoaa.Rd
end
