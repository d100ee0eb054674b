/- Part 6 of the proof. -/
import Derived.Test.YtheciiemknmnoaaGreatProg
import Derived.Laws.Tables
import Derived.Orders
import Derived.Below
import Derived.Deep.Draws
import Derived.Deep.AppendLies
import Derived.Maps.AppendAt
import Derived.OwnWalk
import Derived.Laws.BytesArg
import Derived.Laws.MakeOwn
import Derived.Laws.OwnMore
import Derived.Deep.OwnRows
import Derived.Tactics
import Derived.Lib.ConvBytes
import Derived.Laws.Slices
import Derived.WalkKit
import Derived.KernelRfl
import Derived.RowKit3
import Derived.Deep.LoopGhost
import Derived.Deep.QuietTactic
import Derived.BigQuiet
import Derived.WideLaws
import Derived.Deep.DeepCutAuto
import Derived.Deep.CutBlock
import Derived.Deep.RegionHeld3
import Derived.Laws.Rows
import Derived.Lib.AppendStr
import Derived.ArgAppend
import Derived.Laws.IdiomCopy
import Derived.RowKit
import Derived.OrdersHeld
import Derived.Laws.BitsLemmas
import Derived.Laws.Cells
import Derived.Great.BuildSlice
import Derived.Deep.Slices
import Derived.Laws.AppendOwn
import Derived.Laws.LoneSync
import Derived.LoopN
import Derived.Laws.StructEq
import Derived.Laws.Bits64b
import Derived.Laws.BitsAllLaws
import Derived.Test.YtheciiemknmnoaaGreatD5
set_option linter.unusedVariables false
set_option linter.unusedSimpArgs false
section
set_option linter.unusedVariables false
set_option linter.unusedSimpArgs false
set_option maxRecDepth 100000
set_option maxHeartbeats 4000000
namespace Go.Proofs.YtheciiemknmnoaaGreat.Rd
open Go Go.RowKit Go.Proofs.YtheciiemknmnoaaGreatW.PrintWords Go.Proofs.YtheciiemknmnoaaGreat.PL Go.Proofs.YtheciiemknmnoaaGreat.Num

theorem kids_none {t : Tm} (h : t.k = 1 ∨ t.k = 2) : kids t = [] := by unfold kids; rw [if_neg (by omega), if_neg (by omega)]
theorem kids_one {t : Tm} (h : t.k = 7 ∨ t.k = 8) : kids t = [t.a] := by unfold kids; rw [if_pos h]
theorem kids_two {t : Tm} (h : t.k = 3 ∨ t.k = 4 ∨ t.k = 5 ∨ t.k = 6) : kids t = [t.a, t.b] := by unfold kids; rw [if_neg (by omega), if_pos h]
theorem needs20_ok : SoundF Tryz.prog 21 needsR := sound [(41, cgoodR), (28, isTwoR)] (orc_cons good19_ok (orc_cons two_ok orc_nil)) Tryz.func21 (by kernel_rfl) (by kernel_rfl) fun us u hR => by
  obtain ⟨c, i, hq, hn, rfl, hu⟩ := hR
  obtain ⟨r, hr⟩ : ∃ r, (cnt c).toNat + 10 < r := ⟨_, Nat.lt_succ_self _⟩
  refine ⟨r, fun C E hC => ?_⟩
  have kg := hC 41 cgoodR (by simp) _ _ ⟨c, hq, by omega, rfl, rfl⟩
  have k2 : ∀ k : Int, C 28 [ui k] (ub (twoB k)) := fun k => hC 28 isTwoR (by simp) _ _ ⟨k, rfl, rfl⟩
  have hm := fun i (h0 : 0 ≤ i) (h1 : i < cnt c) => nth_map (c := c) tU h0 h1
  have hc := cnt_map c tU
  have hc0 := cnt0 c
  unfold needsU mayC at hu
  have hgood : goodC c = true → ∀ (k : Int) t, 0 ≤ k → c[k.toNat]? = some t → termOk t k = true := fun h q t h0 ht => by
    have := goodC_iff.1 h q.toNat t ht
    rwa [show (q.toNat : Int) = q by omega] at this
  clear hC hq
  unfold cU at kg ⊢
  obtain ⟨uB, huB⟩ : ∃ f : List Bool → Rows, f = Rd.uB := ⟨_, rfl⟩
  have uB_len : ∀ s, cnt (uB s) = cnt s := fun s => by rw [huB]; exact Rd.uB_len s
  have uB_nth : ∀ {s : List Bool} {k : Int}, 0 ≤ k → k < cnt s → ∃ b, s[k.toNat]? = some b ∧ (uB s)[k.toNat]? = some [ub b] := fun {s k} h0 h1 => by rw [huB]; exact Rd.uB_nth h0 h1
  have uB_set : ∀ (s : List Bool) (k : Nat) (b : Bool), (uB s).set k [ub b] = uB (s.set k b) := fun s k b => by rw [huB]; exact Rd.uB_set s k b
  rw [← huB] at hu
  generalize c.map tU = xs at *
  generalize goodC c = g at *
  cbv
  cases g
  · rw [Bool.and_false, if_neg (by simp)] at hu
    (repeat ((first | with_reducible refine ln fun _ _ _ => ?_ | refine tt ?_ | refine ff ?_ | refine tt ?_ rfl | with_reducible refine wr fun _ _ => ?_ | with_reducible refine wu fun _ _ => ?_ | refine rp fun _ _ _ => ?_ | refine cp fun _ => ?_ | with_reducible refine bq ?_ | refine cl ?_ | refine sd ?_); cbv)); exact hu.symm
  rcases Decidable.em (0 ≤ i) with h1 | h1
  case inr =>
    rw [decide_eq_false h1, Bool.false_and, Bool.false_and, if_neg (by simp)] at hu
    (repeat ((first | with_reducible refine ln fun _ _ _ => ?_ | refine tt ?_ | refine ff ?_ | refine tt ?_ rfl | with_reducible refine wr fun _ _ => ?_ | with_reducible refine wu fun _ _ => ?_ | refine rp fun _ _ _ => ?_ | refine cp fun _ => ?_ | with_reducible refine bq ?_ | refine cl ?_ | refine sd ?_); cbv)); exact hu.symm
  rcases Decidable.em (i < cnt c) with h2 | h2
  case inr =>
    rw [decide_eq_false h2, Bool.and_false, Bool.false_and, if_neg (by simp)] at hu
    (repeat ((first | with_reducible refine ln fun _ _ _ => ?_ | refine tt ?_ | refine ff ?_ | refine tt ?_ rfl | with_reducible refine wr fun _ _ => ?_ | with_reducible refine wu fun _ _ => ?_ | refine rp fun _ _ _ => ?_ | refine cp fun _ => ?_ | with_reducible refine bq ?_ | refine cl ?_ | refine sd ?_); cbv)); exact hu.symm
  rw [decide_eq_true h1, decide_eq_true h2, Bool.true_and, Bool.true_and, if_pos rfl] at hu
  have hgood := hgood rfl
  (repeat ((first | with_reducible refine ln fun _ _ _ => ?_ | refine tt ?_ | refine ff ?_ | refine tt ?_ rfl | with_reducible refine wr fun _ _ => ?_ | with_reducible refine wu fun _ _ => ?_ | refine rp fun _ _ _ => ?_ | refine cp fun _ => ?_ | with_reducible refine bq ?_ | refine cl ?_ | refine sd ?_); cbv))
  rename_i n0 hn0 hn0' n hn hn' rs hrs hrc
  refine el (us := [ub false]) ?_ (by omega) (by rw [hrs, List.getElem?_replicate, if_pos (by omega)])
  cbv
  refine se fun ys e hyc => ?_
  have e2 : ys = uB ((List.replicate c.length false).set i.toNat true) := by
    rw [e, hrs, ← uB_set, huB]
    unfold Rd.uB
    rw [List.map_replicate]
    congr 2
    unfold cnt at hc hn
    omega
  have hnc : n = cnt c := by omega
  obtain ⟨s0, hs0⟩ : ∃ s0, s0 = (List.replicate c.length false).set i.toNat true := ⟨_, rfl⟩
  rw [← hs0] at e2
  clear e hrs hyc hrc
  subst e2
  cbv
  (repeat ((first | with_reducible refine ln fun _ _ _ => ?_ | refine tt ?_ | refine ff ?_ | refine tt ?_ rfl | with_reducible refine wr fun _ _ => ?_ | with_reducible refine wu fun _ _ => ?_ | refine rp fun _ _ _ => ?_ | refine cp fun _ => ?_ | with_reducible refine bq ?_ | refine cl ?_ | refine sd ?_); cbv))
  refine lets [0, 5, 6] ?_
  cbv
  refine loop_inv (fun j a h => ∃ (k : Int) (s : List Bool), -1 ≤ k ∧ k ≤ i ∧ j = (k + 1).toNat ∧ cnt s = cnt c ∧ down c (k + 1).toNat s = needs c i.toNat ∧ a = [.s 7 xs, .lost, .lost, .lost, .lost, .sl 0 n n 1, ui k, .lost, .lost, .lost, .lost, .lost, .lost, .lost, .lost, .lost, .lost, .lost, .lost, .lost, .lost, .lost, .lost, .lost, .lost, .lost, .lost, .lost, .lost, .lost, .lost, .lost, .lost, .lost, .lost, .lost, .lost, .lost, .lost, .lost, .lost, .lost, .lost, .lost, .lost, .lost, .lost, .lost, .lost, .lost, .lost, .lost, .lost, .lost, .lost, .lost, .lost, .lost, .lost, .lost, .lost] ∧ h = [some (.row 1 (uB s))]) ?_ r (i + 1).toNat _ _ (by omega) ⟨i, s0, by omega, by omega, rfl, by rw [hs0]; unfold cnt; rw [List.length_set, List.length_replicate], by rw [hs0, show (i + 1).toNat = i.toNat + 1 by omega]; rfl, rfl, rfl⟩
  rintro j a h K ⟨k, s, h3, h4, hj, hsc, hd, rfl, rfl⟩ hK
  rcases Decidable.em (0 ≤ k) with h5 | h5
  · obtain ⟨b, hb, hx⟩ := uB_nth (s := s) h5 (by omega)
    cases b
    · rw [down_no h5 hb] at hd
      cbv
      (repeat ((first | with_reducible refine ln fun _ _ _ => ?_ | refine tt ?_ | refine ff ?_ | refine tt ?_ rfl | with_reducible refine wr fun _ _ => ?_ | with_reducible refine wu fun _ _ => ?_ | refine rp fun _ _ _ => ?_ | refine cp fun _ => ?_ | with_reducible refine bq ?_ | refine cl ?_ | refine sd ?_); cbv))
      refine el ?_ (by omega) hx
      cbv
      (repeat ((first | with_reducible refine ln fun _ _ _ => ?_ | refine tt ?_ | refine ff ?_ | refine tt ?_ rfl | with_reducible refine wr fun _ _ => ?_ | with_reducible refine wu fun _ _ => ?_ | refine rp fun _ _ _ => ?_ | refine cp fun _ => ?_ | with_reducible refine bq ?_ | refine cl ?_ | refine sd ?_); cbv))
      rename_i k' hk'
      refine lets [0, 5, 6] ?_
      refine hK k.toNat _ _ (by omega) ⟨k - 1, s, by omega, by omega, by omega, hsc, ?_, by rw [hk']; rfl, rfl⟩
      rw [show k - 1 + 1 = k by omega]
      exact hd
    · obtain ⟨t, ht, hx2⟩ := hm k h5 (by omega)
      rw [down_yes h5 hb ht] at hd
      have k3 := k2 t.k
      have hco := term_cases (hgood k t h5 ht)
      have h0 := kids_none (t := t)
      have h1' := kids_one (t := t)
      have h2' := kids_two (t := t)
      obtain ⟨kd, ta, tb, tn, ts, tl, td⟩ := t
      dsimp only at hco h0 h1' h2' k3
      clear hgood hm k2 ht
      rcases hco with h | ⟨h, _⟩ | ⟨h, ha, hb2⟩ | h
      · rw [h0 (.inl h)] at hd
        cbv
        (repeat ((first | with_reducible refine ln fun _ _ _ => ?_ | refine tt ?_ | refine ff ?_ | refine tt ?_ rfl | with_reducible refine wr fun _ _ => ?_ | with_reducible refine wu fun _ _ => ?_ | refine rp fun _ _ _ => ?_ | refine cp fun _ => ?_ | with_reducible refine bq ?_ | refine cl ?_ | refine sd ?_); cbv))
        refine el ?_ (by omega) hx
        cbv
        (repeat ((first | with_reducible refine ln fun _ _ _ => ?_ | refine tt ?_ | refine ff ?_ | refine tt ?_ rfl | with_reducible refine wr fun _ _ => ?_ | with_reducible refine wu fun _ _ => ?_ | refine rp fun _ _ _ => ?_ | refine cp fun _ => ?_ | with_reducible refine bq ?_ | refine cl ?_ | refine sd ?_); cbv))
        refine el ?_ (by omega) hx2
        subst h
        cbv
        (repeat ((first | with_reducible refine ln fun _ _ _ => ?_ | refine tt ?_ | refine ff ?_ | refine tt ?_ rfl | with_reducible refine wr fun _ _ => ?_ | with_reducible refine wu fun _ _ => ?_ | refine rp fun _ _ _ => ?_ | refine cp fun _ => ?_ | with_reducible refine bq ?_ | refine cl ?_ | refine sd ?_); cbv))
        rename_i k' hk'
        refine lets [0, 5, 6] ?_
        refine hK k.toNat _ _ (by omega) ⟨k - 1, s, by omega, by omega, by omega, hsc, ?_, by rw [hk']; rfl, rfl⟩
        rw [show k - 1 + 1 = k by omega]
        exact hd
      · rw [h0 (.inr h)] at hd
        cbv
        (repeat ((first | with_reducible refine ln fun _ _ _ => ?_ | refine tt ?_ | refine ff ?_ | refine tt ?_ rfl | with_reducible refine wr fun _ _ => ?_ | with_reducible refine wu fun _ _ => ?_ | refine rp fun _ _ _ => ?_ | refine cp fun _ => ?_ | with_reducible refine bq ?_ | refine cl ?_ | refine sd ?_); cbv))
        refine el ?_ (by omega) hx
        cbv
        (repeat ((first | with_reducible refine ln fun _ _ _ => ?_ | refine tt ?_ | refine ff ?_ | refine tt ?_ rfl | with_reducible refine wr fun _ _ => ?_ | with_reducible refine wu fun _ _ => ?_ | refine rp fun _ _ _ => ?_ | refine cp fun _ => ?_ | with_reducible refine bq ?_ | refine cl ?_ | refine sd ?_); cbv))
        refine el ?_ (by omega) hx2
        subst h
        cbv
        (repeat ((first | with_reducible refine ln fun _ _ _ => ?_ | refine tt ?_ | refine ff ?_ | refine tt ?_ rfl | with_reducible refine wr fun _ _ => ?_ | with_reducible refine wu fun _ _ => ?_ | refine rp fun _ _ _ => ?_ | refine cp fun _ => ?_ | with_reducible refine bq ?_ | refine cl ?_ | refine sd ?_); cbv))
        rename_i k' hk'
        refine lets [0, 5, 6] ?_
        refine hK k.toNat _ _ (by omega) ⟨k - 1, s, by omega, by omega, by omega, hsc, ?_, by rw [hk']; rfl, rfl⟩
        rw [show k - 1 + 1 = k by omega]
        exact hd
      · rw [h2' h] at hd
        have hd : down c k.toNat ((s.set ta.toNat true).set tb.toNat true) = needs c i.toNat := hd
        rw [show twoB kd = true by unfold twoB; exact decide_eq_true h] at k3
        obtain ⟨b1, hb1, hx3⟩ := uB_nth (s := s) (k := ta) ha.1 (by omega)
        obtain ⟨s1, hs1⟩ : ∃ s1, s1 = s.set ta.toNat true := ⟨_, rfl⟩
        have hsc1 : cnt s1 = cnt s := by rw [hs1]; unfold cnt; rw [List.length_set]
        obtain ⟨b3, hb3, hx4⟩ := uB_nth (s := s1) (k := tb) hb2.1 (by omega)
        cbv
        (repeat ((first | with_reducible refine ln fun _ _ _ => ?_ | refine tt ?_ | refine ff ?_ | refine tt ?_ rfl | with_reducible refine wr fun _ _ => ?_ | with_reducible refine wu fun _ _ => ?_ | refine rp fun _ _ _ => ?_ | refine cp fun _ => ?_ | with_reducible refine bq ?_ | refine cl ?_ | refine sd ?_); cbv))
        refine el ?_ (by omega) hx
        cbv
        (repeat ((first | with_reducible refine ln fun _ _ _ => ?_ | refine tt ?_ | refine ff ?_ | refine tt ?_ rfl | with_reducible refine wr fun _ _ => ?_ | with_reducible refine wu fun _ _ => ?_ | refine rp fun _ _ _ => ?_ | refine cp fun _ => ?_ | with_reducible refine bq ?_ | refine cl ?_ | refine sd ?_); cbv))
        refine el ?_ (by omega) hx2
        cbv
        (repeat ((first | with_reducible refine ln fun _ _ _ => ?_ | refine tt ?_ | refine ff ?_ | refine tt ?_ rfl | with_reducible refine wr fun _ _ => ?_ | with_reducible refine wu fun _ _ => ?_ | refine rp fun _ _ _ => ?_ | refine cp fun _ => ?_ | with_reducible refine bq ?_ | refine cl ?_ | refine sd ?_); cbv))
        refine el ?_ (by omega) hx3
        cbv
        refine se fun ys e hyc => ?_
        have e2 : ys = uB s1 := by rw [e, hs1, ← uB_set]
        clear e hyc
        subst e2
        cbv
        (repeat ((first | with_reducible refine ln fun _ _ _ => ?_ | refine tt ?_ | refine ff ?_ | refine tt ?_ rfl | with_reducible refine wr fun _ _ => ?_ | with_reducible refine wu fun _ _ => ?_ | refine rp fun _ _ _ => ?_ | refine cp fun _ => ?_ | with_reducible refine bq ?_ | refine cl ?_ | refine sd ?_); cbv))
        refine el ?_ (by omega) hx4
        cbv
        refine se fun ys e hyc => ?_
        obtain ⟨s2, hs2⟩ : ∃ s2, s2 = s1.set tb.toNat true := ⟨_, rfl⟩
        have e2 : ys = uB s2 := by rw [e, hs2, ← uB_set]
        have hsc2 : cnt s2 = cnt s1 := by rw [hs2]; unfold cnt; rw [List.length_set]
        clear e hyc
        subst e2
        cbv
        (repeat ((first | with_reducible refine ln fun _ _ _ => ?_ | refine tt ?_ | refine ff ?_ | refine tt ?_ rfl | with_reducible refine wr fun _ _ => ?_ | with_reducible refine wu fun _ _ => ?_ | refine rp fun _ _ _ => ?_ | refine cp fun _ => ?_ | with_reducible refine bq ?_ | refine cl ?_ | refine sd ?_); cbv))
        rename_i k' hk'
        refine lets [0, 5, 6] ?_
        refine hK k.toNat _ _ (by omega) ⟨k - 1, s2, by omega, by omega, by omega, by omega, ?_, by rw [hk']; rfl, rfl⟩
        rw [show k - 1 + 1 = k by omega, hs2, hs1]
        exact hd
      · have hk78 : kd = 7 ∨ kd = 8 := h.elim (fun h => .inl h.1) fun h => .inr h.1
        have ha : 0 ≤ ta ∧ ta < k := h.elim (fun h => h.2) fun h => h.2.1
        rw [h1' hk78] at hd
        have hd : down c k.toNat (s.set ta.toNat true) = needs c i.toNat := hd
        rw [show twoB kd = false by unfold twoB; exact decide_eq_false (by omega)] at k3
        obtain ⟨b1, hb1, hx3⟩ := uB_nth (s := s) (k := ta) ha.1 (by omega)
        clear h
        cbv
        (repeat ((first | with_reducible refine ln fun _ _ _ => ?_ | refine tt ?_ | refine ff ?_ | refine tt ?_ rfl | with_reducible refine wr fun _ _ => ?_ | with_reducible refine wu fun _ _ => ?_ | refine rp fun _ _ _ => ?_ | refine cp fun _ => ?_ | with_reducible refine bq ?_ | refine cl ?_ | refine sd ?_); cbv))
        refine el ?_ (by omega) hx
        cbv
        (repeat ((first | with_reducible refine ln fun _ _ _ => ?_ | refine tt ?_ | refine ff ?_ | refine tt ?_ rfl | with_reducible refine wr fun _ _ => ?_ | with_reducible refine wu fun _ _ => ?_ | refine rp fun _ _ _ => ?_ | refine cp fun _ => ?_ | with_reducible refine bq ?_ | refine cl ?_ | refine sd ?_); cbv))
        refine el ?_ (by omega) hx2
        cbv
        (repeat ((first | with_reducible refine ln fun _ _ _ => ?_ | refine tt ?_ | refine ff ?_ | refine tt ?_ rfl | with_reducible refine wr fun _ _ => ?_ | with_reducible refine wu fun _ _ => ?_ | refine rp fun _ _ _ => ?_ | refine cp fun _ => ?_ | with_reducible refine bq ?_ | refine cl ?_ | refine sd ?_); cbv))
        refine el ?_ (by omega) hx3
        cbv
        refine se fun ys e hyc => ?_
        obtain ⟨s1, hs1⟩ : ∃ s1, s1 = s.set ta.toNat true := ⟨_, rfl⟩
        have e2 : ys = uB s1 := by rw [e, hs1, ← uB_set]
        have hsc1 : cnt s1 = cnt s := by rw [hs1]; unfold cnt; rw [List.length_set]
        clear e hyc
        subst e2
        cbv
        (repeat ((first | with_reducible refine ln fun _ _ _ => ?_ | refine tt ?_ | refine ff ?_ | refine tt ?_ rfl | with_reducible refine wr fun _ _ => ?_ | with_reducible refine wu fun _ _ => ?_ | refine rp fun _ _ _ => ?_ | refine cp fun _ => ?_ | with_reducible refine bq ?_ | refine cl ?_ | refine sd ?_); cbv))
        rename_i k' hk'
        refine lets [0, 5, 6] ?_
        refine hK k.toNat _ _ (by omega) ⟨k - 1, s1, by omega, by omega, by omega, by omega, ?_, by rw [hk']; rfl, rfl⟩
        rw [show k - 1 + 1 = k by omega, hs1]
        exact hd
  · rw [show (k + 1).toNat = 0 by omega] at hd
    unfold down at hd
    have hsl := uB_len s
    rw [← hd] at hu
    cbv
    (repeat ((first | refine ln fun _ _ _ => ?_ | refine tt ?_ | refine ff ?_ | refine wr fun _ _ => ?_ | refine wu fun _ _ => ?_ | refine rp fun _ _ _ => ?_ | refine cp fun _ => ?_ | with_reducible refine bq ?_ | refine cl ?_ | refine sd ?_ | intro _ _); cbv))
    rename_i ys e
    rw [hu, e, List.take_of_length_le (by unfold cnt at *; omega)]
end Go.Proofs.YtheciiemknmnoaaGreat.Rd
end
section
set_option linter.unusedVariables false
set_option linter.unusedSimpArgs false
set_option maxRecDepth 100000
set_option maxHeartbeats 4000000
namespace Go.Proofs.YtheciiemknmnoaaGreat.Rd
open Go Go.RowKit Go.Proofs.YtheciiemknmnoaaGreatW.PrintWords Go.Proofs.YtheciiemknmnoaaGreat.PL Go.Proofs.YtheciiemknmnoaaGreat.Num

def mayR (us : List U) (u : U) : Prop := ∃ c i xs, (∀ t ∈ c, LB t.q) ∧ cnt c ≤ 1000000 ∧ (∀ a ∈ xs, LB a) ∧ cnt xs ≤ 1000000 ∧ us = [cU c, ui i, qsU xs] ∧ u = ub (madeB c i xs)
theorem may_ok : SoundF Tryz.prog 25 mayR := sound [(21, needsR), (44, goodR)] (orc_cons needs20_ok (orc_cons good7_ok orc_nil)) Tryz.func25 (by kernel_rfl) (by kernel_rfl) fun us u hR => by
  obtain ⟨c, i, xs, hq, hn, hx, hxn, rfl, hu⟩ := hR
  obtain ⟨r, hr⟩ : ∃ r, (cnt c).toNat + (cnt xs).toNat + 10 < r := ⟨_, Nat.lt_succ_self _⟩
  refine ⟨r, fun C E hC => ?_⟩
  have k1 := hC 21 needsR (by simp) _ _ ⟨c, i, hq, hn, rfl, rfl⟩
  have kg : ∀ (j : Int) a, xs[j.toNat]? = some a → C 44 [.agg (qU a)] (ub (goodB a)) := fun j a ha => hC 44 goodR (by simp) _ _ ⟨a, hx a (List.mem_of_getElem? ha), rfl, rfl⟩
  have hcn := fun i (h0 : 0 ≤ i) (h1 : i < cnt c) => nth_map (c := c) tU h0 h1
  have hxm := fun i (h0 : 0 ≤ i) (h1 : i < cnt xs) => nth_map (c := xs) qU h0 h1
  have hc := cnt_map c tU
  have hxc := cnt_map xs qU
  have hc0 := cnt0 c
  have hx0 := cnt0 xs
  have hnl := needs_len c i.toNat
  have hle := fun (h : mayC c i = true) (j : Nat) => needs_le (c := c) (ahead_of (by unfold mayC at h; simp only [Bool.and_eq_true] at h; exact h.2)) (i := i.toNat) (j := j)
  unfold madeB at hu
  unfold needsU at k1
  clear hC hx hq
  unfold cU qsU at *
  generalize c.map tU = cs at *
  generalize xs.map qU = ys at *
  have hmay : mayC c i = true → 0 ≤ i ∧ i < cnt c := fun h => by
    unfold mayC at h
    simp only [Bool.and_eq_true, decide_eq_true_eq] at h
    exact h.1
  cases hmc : mayC c i
  · rw [hmc, if_neg (by simp)] at k1
    rw [hmc, Bool.false_and, Bool.false_and] at hu
    clear hle kg
    cbv
    (repeat ((first | with_reducible refine ln fun _ _ _ => ?_ | refine tt ?_ | refine ff ?_ | refine tt ?_ rfl | with_reducible refine wr fun _ _ => ?_ | with_reducible refine wu fun _ _ => ?_ | refine rp fun _ _ _ => ?_ | refine cp fun _ => ?_ | with_reducible refine bq ?_ | refine cl ?_ | refine sd ?_); cbv))
    exact hu.symm
  rw [hmc, if_pos rfl] at k1
  rw [hmc, Bool.true_and] at hu
  have hle := hle hmc
  obtain ⟨hi0, hi1⟩ := hmay hmc
  clear hmay hmc
  generalize needs c i.toNat = nd at *
  have hnx := fun j (h0 : 0 ≤ j) (h1 : j < cnt nd) => uB_nth (s := nd) h0 h1
  have hnc := uB_len nd
  generalize uB nd = nds at *
  cbv
  (repeat ((first | with_reducible refine ln fun _ _ _ => ?_ | refine tt ?_ | refine ff ?_ | refine tt ?_ rfl | with_reducible refine wr fun _ _ => ?_ | with_reducible refine wu fun _ _ => ?_ | refine rp fun _ _ _ => ?_ | refine cp fun _ => ?_ | with_reducible refine bq ?_ | refine cl ?_ | refine sd ?_); cbv))
  refine lets [0, 1, 2, 7, 8] ?_
  cbv
  refine loop_inv (fun j a h => ∃ q : Int, 0 ≤ q ∧ q ≤ cnt xs ∧ j = (cnt xs - q).toNat ∧ (∀ (p : Nat) z, (p : Int) < q → xs[p]? = some z → goodB z = true) ∧ a = [.s 7 cs, ui i, .s 3 ys, .lost, .lost, .lost, .lost, .s 1 nds, ui q, .lost, .lost, .lost, .lost, .lost, .lost, .lost, .lost, .lost, .lost, .lost, .lost, .lost, .lost, .lost, .lost, .lost, .lost, .lost, .lost, .lost, .lost, .lost, .lost, .lost, .lost, .lost, .lost, .lost, .lost, .lost, .lost, .lost, .lost, .lost, .lost, .lost, .lost, .lost, .lost, .lost, .lost, .lost, .lost, .lost, .lost] ∧ h = []) ?_ r (cnt xs).toNat _ _ (by omega) ⟨0, by omega, by omega, by omega, fun p z hp _ => absurd hp (by omega), rfl, rfl⟩
  rintro j a h K ⟨q, q0, q1, hj, hg, rfl, rfl⟩ hK
  rcases Decidable.em (q < cnt xs) with hlt | hlt
  · obtain ⟨⟨s, l, d⟩, hz, hy⟩ := hxm q q0 hlt
    have k2 := kg q _ hz
    have hg' : goodB (s, l, d) = true → ∀ (p : Nat) z, (p : Int) < q + 1 → xs[p]? = some z → goodB z = true := fun hb p z hp hz' => by
      by_cases e : (p : Int) = q
      · rw [show p = q.toNat by omega, hz] at hz'
        injection hz' with hz'
        rw [← hz']
        exact hb
      · exact hg p z (by omega) hz'
    have hg2 : goodB (s, l, d) = false → xs.all goodB = false := fun hb => by
      rw [Bool.eq_false_iff, Ne, List.all_eq_true]
      intro hh
      rw [hh _ (List.mem_of_getElem? hz)] at hb
      cases hb
    generalize goodB (s, l, d) = g at k2 hg' hg2
    cases g
    · rw [hg2 rfl, Bool.false_and] at hu
      clear hg' hg2 hg
      cbv
      (repeat ((first | with_reducible refine ln fun _ _ _ => ?_ | refine tt ?_ | refine ff ?_ | refine tt ?_ rfl | with_reducible refine wr fun _ _ => ?_ | with_reducible refine wu fun _ _ => ?_ | refine rp fun _ _ _ => ?_ | refine cp fun _ => ?_ | with_reducible refine bq ?_ | refine cl ?_ | refine sd ?_); cbv))
      refine el ?_ (by omega) hy
      cbv
      (repeat ((first | with_reducible refine ln fun _ _ _ => ?_ | refine tt ?_ | refine ff ?_ | refine tt ?_ rfl | with_reducible refine wr fun _ _ => ?_ | with_reducible refine wu fun _ _ => ?_ | refine rp fun _ _ _ => ?_ | refine cp fun _ => ?_ | with_reducible refine bq ?_ | refine cl ?_ | refine sd ?_); cbv))
      exact hu.symm
    · clear hg2
      cbv
      (repeat ((first | with_reducible refine ln fun _ _ _ => ?_ | refine tt ?_ | refine ff ?_ | refine tt ?_ rfl | with_reducible refine wr fun _ _ => ?_ | with_reducible refine wu fun _ _ => ?_ | refine rp fun _ _ _ => ?_ | refine cp fun _ => ?_ | with_reducible refine bq ?_ | refine cl ?_ | refine sd ?_); cbv))
      refine el ?_ (by omega) hy
      cbv
      (repeat ((first | with_reducible refine ln fun _ _ _ => ?_ | refine tt ?_ | refine ff ?_ | refine tt ?_ rfl | with_reducible refine wr fun _ _ => ?_ | with_reducible refine wu fun _ _ => ?_ | refine rp fun _ _ _ => ?_ | refine cp fun _ => ?_ | with_reducible refine bq ?_ | refine cl ?_ | refine sd ?_); cbv))
      rename_i q' hq'
      refine lets [0, 1, 2, 7, 8] ?_
      exact hK (cnt xs - (q + 1)).toNat _ _ (by omega) ⟨q + 1, by omega, by omega, rfl, hg' rfl, by rw [hq']; rfl, rfl⟩
  have hall : xs.all goodB = true := List.all_eq_true.2 fun z hz => by
    obtain ⟨p, hp, rfl⟩ := List.mem_iff_getElem.1 hz
    exact hg p _ (by unfold cnt at hlt; omega) (List.getElem?_eq_getElem hp)
  rw [hall, Bool.true_and] at hu
  clear hg hall kg hxm
  cbv
  (repeat ((first | with_reducible refine ln fun _ _ _ => ?_ | refine tt ?_ | refine ff ?_ | refine tt ?_ rfl | with_reducible refine wr fun _ _ => ?_ | with_reducible refine wu fun _ _ => ?_ | refine rp fun _ _ _ => ?_ | refine cp fun _ => ?_ | with_reducible refine bq ?_ | refine cl ?_ | refine sd ?_); cbv))
  refine lets [0, 1, 2, 7, 9] ?_
  cbv
  refine loop_inv (fun j a h => ∃ q : Int, 0 ≤ q ∧ q ≤ i + 1 ∧ j = (i + 1 - q).toNat ∧ (∀ (p : Nat) t, (p : Int) < q → c[p]? = some t → nd[p]? = some true → t.k = 2 → t.n < cnt xs) ∧ a = [.s 7 cs, ui i, .s 3 ys, .lost, .lost, .lost, .lost, .s 1 nds, .lost, ui q, .lost, .lost, .lost, .lost, .lost, .lost, .lost, .lost, .lost, .lost, .lost, .lost, .lost, .lost, .lost, .lost, .lost, .lost, .lost, .lost, .lost, .lost, .lost, .lost, .lost, .lost, .lost, .lost, .lost, .lost, .lost, .lost, .lost, .lost, .lost, .lost, .lost, .lost, .lost, .lost, .lost, .lost, .lost, .lost, .lost] ∧ h = []) ?_ r (i + 1).toNat _ _ (by omega) ⟨0, by omega, by omega, by omega, fun p z hp _ => absurd hp (by omega), rfl, rfl⟩
  rintro j2 a h K2 ⟨q, q0, q1, hj2, hg, rfl, rfl⟩ hK2
  clear hK
  rcases Decidable.em (q ≤ i) with hlt | hlt
  · obtain ⟨⟨kd, ta, tb, m, s, l, d⟩, ht, hy⟩ := hcn q q0 (by omega)
    obtain ⟨b, hb, hz⟩ := hnx q q0 (by omega)
    have hg' : (b = true → kd = 2 → m < cnt xs) → ∀ (p : Nat) t, (p : Int) < q + 1 → c[p]? = some t → nd[p]? = some true → t.k = 2 → t.n < cnt xs := fun hh p t hp ht' hb' hk => by
      by_cases e : (p : Int) = q
      · have : p = q.toNat := by omega
        subst this
        rw [ht] at ht'
        injection ht' with ht'
        subst ht'
        rw [hb] at hb'
        injection hb' with hb'
        exact hh hb' hk
      · exact hg p t (by omega) ht' hb' hk
    have hg2 : b = true → kd = 2 → ¬ m < cnt xs → refsB c nd (cnt xs) = false := fun e1 e2 e3 => by
      rw [Bool.eq_false_iff]
      intro hh
      exact e3 (refs_iff.1 hh q.toNat _ ht (by rw [hb, e1]) e2)
    clear hg hcn hnx ht hb hle
    cbv
    (repeat ((first | with_reducible refine ln fun _ _ _ => ?_ | refine tt ?_ | refine ff ?_ | refine tt ?_ rfl | with_reducible refine wr fun _ _ => ?_ | with_reducible refine wu fun _ _ => ?_ | refine rp fun _ _ _ => ?_ | refine cp fun _ => ?_ | with_reducible refine bq ?_ | refine cl ?_ | refine sd ?_); cbv))
    refine el ?_ (by omega) hz
    clear hz
    cases b
    · clear hg2
      cbv
      (repeat ((first | with_reducible refine ln fun _ _ _ => ?_ | refine tt ?_ | refine ff ?_ | refine tt ?_ rfl | with_reducible refine wr fun _ _ => ?_ | with_reducible refine wu fun _ _ => ?_ | refine rp fun _ _ _ => ?_ | refine cp fun _ => ?_ | with_reducible refine bq ?_ | refine cl ?_ | refine sd ?_); cbv))
      rename_i q' hq'
      refine lets [0, 1, 2, 7, 9] ?_
      exact hK2 (i + 1 - (q + 1)).toNat _ _ (by omega) ⟨q + 1, by omega, by omega, rfl, hg' (fun e => by cases e), by rw [hq']; rfl, rfl⟩
    rcases Decidable.em (kd = 2) with h3 | h3
    · rcases Decidable.em (m < cnt xs) with h4 | h4
      · clear hg2
        cbv
        (repeat ((first | with_reducible refine ln fun _ _ _ => ?_ | refine tt ?_ | refine ff ?_ | refine tt ?_ rfl | with_reducible refine wr fun _ _ => ?_ | with_reducible refine wu fun _ _ => ?_ | refine rp fun _ _ _ => ?_ | refine cp fun _ => ?_ | with_reducible refine bq ?_ | refine cl ?_ | refine sd ?_); cbv))
        refine el ?_ (by omega) hy
        cbv
        (repeat ((first | with_reducible refine ln fun _ _ _ => ?_ | refine tt ?_ | refine ff ?_ | refine tt ?_ rfl | with_reducible refine wr fun _ _ => ?_ | with_reducible refine wu fun _ _ => ?_ | refine rp fun _ _ _ => ?_ | refine cp fun _ => ?_ | with_reducible refine bq ?_ | refine cl ?_ | refine sd ?_); cbv))
        refine el ?_ (by omega) hy
        cbv
        (repeat ((first | with_reducible refine ln fun _ _ _ => ?_ | refine tt ?_ | refine ff ?_ | refine tt ?_ rfl | with_reducible refine wr fun _ _ => ?_ | with_reducible refine wu fun _ _ => ?_ | refine rp fun _ _ _ => ?_ | refine cp fun _ => ?_ | with_reducible refine bq ?_ | refine cl ?_ | refine sd ?_); cbv))
        rename_i q' hq'
        refine lets [0, 1, 2, 7, 9] ?_
        exact hK2 (i + 1 - (q + 1)).toNat _ _ (by omega) ⟨q + 1, by omega, by omega, rfl, hg' (fun _ _ => h4), by rw [hq']; rfl, rfl⟩
      · rw [hg2 rfl h3 h4] at hu
        clear hg2 hg' hK2
        cbv
        (repeat ((first | with_reducible refine ln fun _ _ _ => ?_ | refine tt ?_ | refine ff ?_ | refine tt ?_ rfl | with_reducible refine wr fun _ _ => ?_ | with_reducible refine wu fun _ _ => ?_ | refine rp fun _ _ _ => ?_ | refine cp fun _ => ?_ | with_reducible refine bq ?_ | refine cl ?_ | refine sd ?_); cbv))
        refine el ?_ (by omega) hy
        cbv
        (repeat ((first | with_reducible refine ln fun _ _ _ => ?_ | refine tt ?_ | refine ff ?_ | refine tt ?_ rfl | with_reducible refine wr fun _ _ => ?_ | with_reducible refine wu fun _ _ => ?_ | refine rp fun _ _ _ => ?_ | refine cp fun _ => ?_ | with_reducible refine bq ?_ | refine cl ?_ | refine sd ?_); cbv))
        refine el ?_ (by omega) hy
        cbv
        (repeat ((first | with_reducible refine ln fun _ _ _ => ?_ | refine tt ?_ | refine ff ?_ | refine tt ?_ rfl | with_reducible refine wr fun _ _ => ?_ | with_reducible refine wu fun _ _ => ?_ | refine rp fun _ _ _ => ?_ | refine cp fun _ => ?_ | with_reducible refine bq ?_ | refine cl ?_ | refine sd ?_); cbv))
        exact hu.symm
    · clear hg2
      cbv
      (repeat ((first | with_reducible refine ln fun _ _ _ => ?_ | refine tt ?_ | refine ff ?_ | refine tt ?_ rfl | with_reducible refine wr fun _ _ => ?_ | with_reducible refine wu fun _ _ => ?_ | refine rp fun _ _ _ => ?_ | refine cp fun _ => ?_ | with_reducible refine bq ?_ | refine cl ?_ | refine sd ?_); cbv))
      refine el ?_ (by omega) hy
      cbv
      (repeat ((first | with_reducible refine ln fun _ _ _ => ?_ | refine tt ?_ | refine ff ?_ | refine tt ?_ rfl | with_reducible refine wr fun _ _ => ?_ | with_reducible refine wu fun _ _ => ?_ | refine rp fun _ _ _ => ?_ | refine cp fun _ => ?_ | with_reducible refine bq ?_ | refine cl ?_ | refine sd ?_); cbv))
      rename_i q' hq'
      refine lets [0, 1, 2, 7, 9] ?_
      exact hK2 (i + 1 - (q + 1)).toNat _ _ (by omega) ⟨q + 1, by omega, by omega, rfl, hg' (fun _ e => absurd e h3), by rw [hq']; rfl, rfl⟩
  · rw [refs_iff.2 fun p t ht hb hk => hg p t (by have := hle p hb; omega) ht hb hk] at hu
    clear hg hcn hnx hle
    cbv
    (repeat ((first | with_reducible refine ln fun _ _ _ => ?_ | refine tt ?_ | refine ff ?_ | refine tt ?_ rfl | with_reducible refine wr fun _ _ => ?_ | with_reducible refine wu fun _ _ => ?_ | refine rp fun _ _ _ => ?_ | refine cp fun _ => ?_ | with_reducible refine bq ?_ | refine cl ?_ | refine sd ?_); cbv))
    exact hu.symm
end Go.Proofs.YtheciiemknmnoaaGreat.Rd
end
section
set_option linter.unusedVariables false
set_option linter.unusedSimpArgs false
set_option maxRecDepth 100000
set_option maxHeartbeats 4000000
namespace Go.Proofs.YtheciiemknmnoaaGreat.Rd
open Go Go.RowKit Go.Proofs.YtheciiemknmnoaaGreatW.PrintWords Go.Proofs.YtheciiemknmnoaaGreat.PL Go.Proofs.YtheciiemknmnoaaGreat.Num

theorem alike {α : Type} {a b : List α} {n : Int} (hn : cnt a = n) (hb : cnt b = n) (h : ∀ (x : Nat), (x : Int) < n → a[x]? = b[x]?) : a = b := by
  unfold cnt at *
  refine List.ext_getElem? fun x => ?_
  by_cases e : (x : Int) < n
  · exact h x e
  · rw [List.getElem?_eq_none (by omega), List.getElem?_eq_none (by omega)]
theorem apart {α : Type} {a b : List α} {i : Int} {x y : α} (h1 : a[i.toNat]? = some x) (h2 : b[i.toNat]? = some y) (h : x ≠ y) : ¬ a = b := fun e => by
  rw [e, h2] at h1
  injection h1 with h1
  exact h h1.symm
theorem upto {α : Type} {a b : List α} {i : Int} {x : α} (h0 : 0 ≤ i) (h1 : a[i.toNat]? = some x) (h2 : b[i.toNat]? = some x) (h : ∀ (x : Nat), (x : Int) < i → a[x]? = b[x]?) : ∀ (x : Nat), (x : Int) < i + 1 → a[x]? = b[x]? := fun x hx => by
  by_cases e : (x : Int) = i
  · have : x = i.toNat := by omega
    rw [this, h1, h2]
  · exact h x (by omega)
def keepIntsR (us : List U) (u : U) : Prop := ∃ a b : List Int, cnt a ≤ 1000000 ∧ us = [.s 1 (uis a), .s 1 (uis b)] ∧ u = ub (decide (a = b))
theorem keepInts_ok : SoundF Tryz.prog 18 keepIntsR := sound [] orc_nil Tryz.func18 (by kernel_rfl) (by kernel_rfl) fun us u hR => by
  obtain ⟨a, b, hn, rfl, hu⟩ := hR
  obtain ⟨r, hr⟩ : ∃ r, (cnt a).toNat < r := ⟨_, Nat.lt_succ_self _⟩
  refine ⟨r, fun C E hC => ?_⟩
  have hva := fun i (h0 : 0 ≤ i) (h1 : i < cnt a) => nth_map (c := a) (fun x => [ui x]) h0 h1
  have hvb := fun i (h0 : 0 ≤ i) (h1 : i < cnt b) => nth_map (c := b) (fun x => [ui x]) h0 h1
  have hca := cnt_map a fun x => [ui x]
  have hcb := cnt_map b fun x => [ui x]
  have ha0 := cnt0 a
  unfold uis
  generalize a.map (fun x => [ui x]) = xs at *
  generalize b.map (fun x => [ui x]) = ys at *
  cbv
  rcases Decidable.em (cnt a = cnt b) with h1 | h1
  case inr =>
    rw [decide_eq_false (fun e => h1 (by rw [e]))] at hu
    (repeat ((first | refine ln fun _ _ _ => ?_ | refine tt ?_ | refine ff ?_ | refine wr fun _ _ => ?_ | refine wu fun _ _ => ?_ | refine rp fun _ _ _ => ?_ | refine cp fun _ => ?_ | with_reducible refine bq ?_ | refine cl ?_ | refine sd ?_ | intro _ _); cbv))
    exact hu.symm
  (repeat ((first | refine ln fun _ _ _ => ?_ | refine tt ?_ | refine ff ?_ | refine wr fun _ _ => ?_ | refine wu fun _ _ => ?_ | refine rp fun _ _ _ => ?_ | refine cp fun _ => ?_ | with_reducible refine bq ?_ | refine cl ?_ | refine sd ?_ | intro _ _); cbv))
  refine lets [0, 1, 5] ?_
  cbv
  refine loop_inv (fun j a1 h => ∃ i : Int, 0 ≤ i ∧ i ≤ cnt a ∧ j = (cnt a - i).toNat ∧ (∀ (x : Nat), (x : Int) < i → a[x]? = b[x]?) ∧ a1 = [.s 1 xs, .s 1 ys, .lost, .lost, .lost, ui i, .lost, .lost, .lost, .lost, .lost, .lost, .lost, .lost, .lost, .lost, .lost, .lost, .lost, .lost, .lost, .lost, .lost, .lost, .lost, .lost] ∧ h = []) ?_ r (cnt a).toNat _ _ hr ⟨0, by omega, by omega, by omega, fun x hx => absurd hx (by omega), rfl, rfl⟩
  rintro j a1 h K ⟨i, i0, i1, hj, hI, rfl, rfl⟩ hK
  rcases Decidable.em (i < cnt a) with hlt | hlt
  · obtain ⟨x, hx, hx2⟩ := hva i i0 hlt
    obtain ⟨y, hy, hy2⟩ := hvb i i0 (by omega)
    rcases Decidable.em (x = y) with e | e
    · subst e
      have hI := upto i0 hx hy hI
      clear hu
      (
        cbv
        (repeat ((first | refine ln fun _ _ _ => ?_ | refine tt ?_ | refine ff ?_ | refine wr fun _ _ => ?_ | refine wu fun _ _ => ?_ | refine rp fun _ _ _ => ?_ | refine cp fun _ => ?_ | with_reducible refine bq ?_ | refine cl ?_ | refine sd ?_ | intro _ _); cbv))
        refine el ?_ (by omega) hx2
        cbv
        (repeat ((first | refine ln fun _ _ _ => ?_ | refine tt ?_ | refine ff ?_ | refine wr fun _ _ => ?_ | refine wu fun _ _ => ?_ | refine rp fun _ _ _ => ?_ | refine cp fun _ => ?_ | with_reducible refine bq ?_ | refine cl ?_ | refine sd ?_ | intro _ _); cbv))
        refine el ?_ (by omega) hy2
        cbv
        (repeat ((first | refine ln fun _ _ _ => ?_ | refine tt ?_ | refine ff ?_ | refine wr fun _ _ => ?_ | refine wu fun _ _ => ?_ | refine rp fun _ _ _ => ?_ | refine cp fun _ => ?_ | with_reducible refine bq ?_ | refine cl ?_ | refine sd ?_ | intro _ _); cbv))
        rename_i q' hq'
        refine lets [0, 1, 5] ?_
        exact hK (cnt a - (i + 1)).toNat _ _ (by omega) ⟨i + 1, by omega, by omega, rfl, hI, by rw [hq']; rfl, rfl⟩)
    · rw [decide_eq_false (apart hx hy e)] at hu
      clear hI hK
      (
        cbv
        (repeat ((first | refine ln fun _ _ _ => ?_ | refine tt ?_ | refine ff ?_ | refine wr fun _ _ => ?_ | refine wu fun _ _ => ?_ | refine rp fun _ _ _ => ?_ | refine cp fun _ => ?_ | with_reducible refine bq ?_ | refine cl ?_ | refine sd ?_ | intro _ _); cbv))
        refine el ?_ (by omega) hx2
        cbv
        (repeat ((first | refine ln fun _ _ _ => ?_ | refine tt ?_ | refine ff ?_ | refine wr fun _ _ => ?_ | refine wu fun _ _ => ?_ | refine rp fun _ _ _ => ?_ | refine cp fun _ => ?_ | with_reducible refine bq ?_ | refine cl ?_ | refine sd ?_ | intro _ _); cbv))
        refine el ?_ (by omega) hy2
        cbv
        (repeat ((first | refine ln fun _ _ _ => ?_ | refine tt ?_ | refine ff ?_ | refine wr fun _ _ => ?_ | refine wu fun _ _ => ?_ | refine rp fun _ _ _ => ?_ | refine cp fun _ => ?_ | with_reducible refine bq ?_ | refine cl ?_ | refine sd ?_ | intro _ _); cbv))
        exact hu.symm)
  · rw [decide_eq_true (alike rfl h1.symm fun x hx => hI x (by omega))] at hu
    clear hI hK
    cbv
    (repeat ((first | refine ln fun _ _ _ => ?_ | refine tt ?_ | refine ff ?_ | refine wr fun _ _ => ?_ | refine wu fun _ _ => ?_ | refine rp fun _ _ _ => ?_ | refine cp fun _ => ?_ | with_reducible refine bq ?_ | refine cl ?_ | refine sd ?_ | intro _ _); cbv))
    exact hu.symm
def keepBoolsR (us : List U) (u : U) : Prop := ∃ a b : List Bool, cnt a ≤ 1000000 ∧ us = [.s 1 (uB a), .s 1 (uB b)] ∧ u = ub (decide (a = b))
theorem keepBools_ok : SoundF Tryz.prog 19 keepBoolsR := sound [] orc_nil Tryz.func19 (by kernel_rfl) (by kernel_rfl) fun us u hR => by
  obtain ⟨a, b, hn, rfl, hu⟩ := hR
  obtain ⟨r, hr⟩ : ∃ r, (cnt a).toNat < r := ⟨_, Nat.lt_succ_self _⟩
  refine ⟨r, fun C E hC => ?_⟩
  have hva := fun i (h0 : 0 ≤ i) (h1 : i < cnt a) => nth_map (c := a) (fun x => [ub x]) h0 h1
  have hvb := fun i (h0 : 0 ≤ i) (h1 : i < cnt b) => nth_map (c := b) (fun x => [ub x]) h0 h1
  have hca := cnt_map a fun x => [ub x]
  have hcb := cnt_map b fun x => [ub x]
  have ha0 := cnt0 a
  unfold uB
  generalize a.map (fun x => [ub x]) = xs at *
  generalize b.map (fun x => [ub x]) = ys at *
  cbv
  rcases Decidable.em (cnt a = cnt b) with h1 | h1
  case inr =>
    rw [decide_eq_false (fun e => h1 (by rw [e]))] at hu
    (repeat ((first | refine ln fun _ _ _ => ?_ | refine tt ?_ | refine ff ?_ | refine wr fun _ _ => ?_ | refine wu fun _ _ => ?_ | refine rp fun _ _ _ => ?_ | refine cp fun _ => ?_ | with_reducible refine bq ?_ | refine cl ?_ | refine sd ?_ | intro _ _); cbv))
    exact hu.symm
  (repeat ((first | refine ln fun _ _ _ => ?_ | refine tt ?_ | refine ff ?_ | refine wr fun _ _ => ?_ | refine wu fun _ _ => ?_ | refine rp fun _ _ _ => ?_ | refine cp fun _ => ?_ | with_reducible refine bq ?_ | refine cl ?_ | refine sd ?_ | intro _ _); cbv))
  refine lets [0, 1, 5] ?_
  cbv
  refine loop_inv (fun j a1 h => ∃ i : Int, 0 ≤ i ∧ i ≤ cnt a ∧ j = (cnt a - i).toNat ∧ (∀ (x : Nat), (x : Int) < i → a[x]? = b[x]?) ∧ a1 = [.s 1 xs, .s 1 ys, .lost, .lost, .lost, ui i, .lost, .lost, .lost, .lost, .lost, .lost, .lost, .lost, .lost, .lost, .lost, .lost, .lost, .lost, .lost, .lost, .lost, .lost, .lost, .lost] ∧ h = []) ?_ r (cnt a).toNat _ _ hr ⟨0, by omega, by omega, by omega, fun x hx => absurd hx (by omega), rfl, rfl⟩
  rintro j a1 h K ⟨i, i0, i1, hj, hI, rfl, rfl⟩ hK
  rcases Decidable.em (i < cnt a) with hlt | hlt
  · obtain ⟨x, hx, hx2⟩ := hva i i0 hlt
    obtain ⟨y, hy, hy2⟩ := hvb i i0 (by omega)
    rcases Decidable.em (x = y) with e | e
    · subst e
      have hI := upto i0 hx hy hI
      clear hu
      cases x <;> (
        cbv
        (repeat ((first | refine ln fun _ _ _ => ?_ | refine tt ?_ | refine ff ?_ | refine wr fun _ _ => ?_ | refine wu fun _ _ => ?_ | refine rp fun _ _ _ => ?_ | refine cp fun _ => ?_ | with_reducible refine bq ?_ | refine cl ?_ | refine sd ?_ | intro _ _); cbv))
        refine el ?_ (by omega) hx2
        cbv
        (repeat ((first | refine ln fun _ _ _ => ?_ | refine tt ?_ | refine ff ?_ | refine wr fun _ _ => ?_ | refine wu fun _ _ => ?_ | refine rp fun _ _ _ => ?_ | refine cp fun _ => ?_ | with_reducible refine bq ?_ | refine cl ?_ | refine sd ?_ | intro _ _); cbv))
        refine el ?_ (by omega) hy2
        cbv
        (repeat ((first | refine ln fun _ _ _ => ?_ | refine tt ?_ | refine ff ?_ | refine wr fun _ _ => ?_ | refine wu fun _ _ => ?_ | refine rp fun _ _ _ => ?_ | refine cp fun _ => ?_ | with_reducible refine bq ?_ | refine cl ?_ | refine sd ?_ | intro _ _); cbv))
        rename_i q' hq'
        refine lets [0, 1, 5] ?_
        exact hK (cnt a - (i + 1)).toNat _ _ (by omega) ⟨i + 1, by omega, by omega, rfl, hI, by rw [hq']; rfl, rfl⟩)
    · rw [decide_eq_false (apart hx hy e)] at hu
      clear hI hK
      cases x <;> cases y <;> first | exact absurd rfl e | (
        cbv
        (repeat ((first | refine ln fun _ _ _ => ?_ | refine tt ?_ | refine ff ?_ | refine wr fun _ _ => ?_ | refine wu fun _ _ => ?_ | refine rp fun _ _ _ => ?_ | refine cp fun _ => ?_ | with_reducible refine bq ?_ | refine cl ?_ | refine sd ?_ | intro _ _); cbv))
        refine el ?_ (by omega) hx2
        cbv
        (repeat ((first | refine ln fun _ _ _ => ?_ | refine tt ?_ | refine ff ?_ | refine wr fun _ _ => ?_ | refine wu fun _ _ => ?_ | refine rp fun _ _ _ => ?_ | refine cp fun _ => ?_ | with_reducible refine bq ?_ | refine cl ?_ | refine sd ?_ | intro _ _); cbv))
        refine el ?_ (by omega) hy2
        cbv
        (repeat ((first | refine ln fun _ _ _ => ?_ | refine tt ?_ | refine ff ?_ | refine wr fun _ _ => ?_ | refine wu fun _ _ => ?_ | refine rp fun _ _ _ => ?_ | refine cp fun _ => ?_ | with_reducible refine bq ?_ | refine cl ?_ | refine sd ?_ | intro _ _); cbv))
        exact hu.symm)
  · rw [decide_eq_true (alike rfl h1.symm fun x hx => hI x (by omega))] at hu
    clear hI hK
    cbv
    (repeat ((first | refine ln fun _ _ _ => ?_ | refine tt ?_ | refine ff ?_ | refine wr fun _ _ => ?_ | refine wu fun _ _ => ?_ | refine rp fun _ _ _ => ?_ | refine cp fun _ => ?_ | with_reducible refine bq ?_ | refine cl ?_ | refine sd ?_ | intro _ _); cbv))
    exact hu.symm
end Go.Proofs.YtheciiemknmnoaaGreat.Rd
end
section
set_option linter.unusedVariables false
set_option linter.unusedSimpArgs false
set_option maxRecDepth 100000
set_option maxHeartbeats 4000000
namespace Go.Proofs.YtheciiemknmnoaaGreat.Rd
open Go Go.RowKit Go.Proofs.YtheciiemknmnoaaGreatW.PrintWords Go.Proofs.YtheciiemknmnoaaGreat.PL Go.Proofs.YtheciiemknmnoaaGreat.Num

theorem keepNR {a b : List Int} (h : cnt a ≤ 1000000) : steelyardkeep_Nat.R [.l a, .l b] (ub (decide (a = b))) := by obtain ⟨k, hk⟩ := (same_tells a b (by unfold cnt at h; omega)).rounds; exact ⟨k, _, _, _, rfl, hk, rfl⟩
def keepIR (us : List U) (u : U) : Prop := ∃ s1 l1 s2 l2, cnt l1 ≤ 1000000 ∧ us = [.agg [ub s1, .l l1], .agg [ub s2, .l l2]] ∧ u = ub (decide ((s1, l1) = (s2, l2)))
theorem keepI_ok : SoundF Tryz.prog 37 keepIR := sound [(38, steelyardkeep_Nat.R)] (orc_cons steelyardkeep_Nat.sound orc_nil) Tryz.func37 (by kernel_rfl) (by kernel_rfl) fun us u hR => ⟨0, fun C E hC => by
  obtain ⟨s1, l1, s2, l2, h, rfl, hu⟩ := hR
  have k := hC 38 steelyardkeep_Nat.R (by simp) _ _ (keepNR (b := l2) h)
  by_cases h1 : s1 = s2
  · rw [show decide ((s1, l1) = (s2, l2)) = decide (l1 = l2) by rw [decide_eq_decide]; simp [h1]] at hu
    generalize decide (l1 = l2) = t at *
    cases s1 <;> cases s2 <;> first | exact absurd h1 (by decide) | (cbv; (repeat ((first | refine ln fun _ _ _ => ?_ | refine tt ?_ | refine ff ?_ | refine wr fun _ _ => ?_ | refine wu fun _ _ => ?_ | refine rp fun _ _ _ => ?_ | refine cp fun _ => ?_ | with_reducible refine bq ?_ | refine cl ?_ | refine sd ?_ | intro _ _); cbv)); exact hu.symm)
  · rw [decide_eq_false (show ¬ (s1, l1) = (s2, l2) by simp [h1])] at hu
    cases s1 <;> cases s2 <;> first | exact absurd rfl h1 | (cbv; (repeat ((first | refine ln fun _ _ _ => ?_ | refine tt ?_ | refine ff ?_ | refine wr fun _ _ => ?_ | refine wu fun _ _ => ?_ | refine rp fun _ _ _ => ?_ | refine cp fun _ => ?_ | with_reducible refine bq ?_ | refine cl ?_ | refine sd ?_ | intro _ _); cbv)); exact hu.symm)⟩
def keepR (us : List U) (u : U) : Prop := ∃ a b : R3, cnt a.2.1 ≤ 1000000 ∧ cnt a.2.2 ≤ 1000000 ∧ us = [uR a, uR b] ∧ u = ub (decide (a = b))
theorem keep_ok : SoundF Tryz.prog 17 keepR := sound [(37, keepIR), (38, steelyardkeep_Nat.R)] (orc_cons keepI_ok (orc_cons steelyardkeep_Nat.sound orc_nil)) Tryz.func17 (by kernel_rfl) (by kernel_rfl) fun us u hR => ⟨0, fun C E hC => by
  obtain ⟨⟨s1, l1, b1⟩, ⟨s2, l2, b2⟩, h, h', rfl, hu⟩ := hR
  have k1 := hC 37 keepIR (by simp) _ _ ⟨s1, l1, s2, l2, h, rfl, rfl⟩
  have k2 := hC 38 steelyardkeep_Nat.R (by simp) _ _ (keepNR (b := b2) h')
  have e : decide ((s1, l1, b1) = (s2, l2, b2)) = (decide ((s1, l1) = (s2, l2)) && decide (b1 = b2)) := by rw [Bool.eq_iff_iff]; simp [and_assoc]
  rw [e] at hu
  clear e h h'
  generalize decide ((s1, l1) = (s2, l2)) = t1 at *
  generalize decide (b1 = b2) = t2 at *
  cases t1 <;> cases t2 <;> cbv <;> (repeat ((first | refine ln fun _ _ _ => ?_ | refine tt ?_ | refine ff ?_ | refine wr fun _ _ => ?_ | refine wu fun _ _ => ?_ | refine rp fun _ _ _ => ?_ | refine cp fun _ => ?_ | with_reducible refine bq ?_ | refine cl ?_ | refine sd ?_ | intro _ _); cbv)) <;> exact hu.symm⟩
end Go.Proofs.YtheciiemknmnoaaGreat.Rd
end
section
set_option linter.unusedVariables false
set_option linter.unusedSimpArgs false
set_option maxRecDepth 100000
set_option maxHeartbeats 4000000
namespace Go.Proofs.YtheciiemknmnoaaGreat.Rd
open Go Go.RowKit Go.Proofs.YtheciiemknmnoaaGreatW.PrintWords Go.Proofs.YtheciiemknmnoaaGreat.PL Go.Proofs.YtheciiemknmnoaaGreat.Num

def quotC : List Tm := [⟨2, 0, 0, 0, none3⟩, ⟨2, 0, 0, 1, none3⟩, ⟨6, 0, 1, 0, none3⟩, ⟨1, 0, 0, 0, ratOf 1⟩, ⟨4, 2, 3, 0, none3⟩]
def quotR (us : List U) (u : U) : Prop := us = [] ∧ u = cU quotC
theorem by_q {C : Orc} (h : Told C 24 byR) (a b : Int) (q : Rat) (h0 : -9223372036854775808 ≤ a ∧ a ≤ 9223372036854775807 ∧ 0 < b ∧ b ≤ 9223372036854775807) (hq : (a : Rat) / (b : Rat) = q) (hf : fits q = true) : ∃ s l d, C 24 [ui a, ui b] (.agg [ub s, .l l, .l d]) ∧ (s, l, d) = ratOf q := by
  subst hq
  exact tR (h _ _ ⟨a, b, h0.1, h0.2.1, h0.2.2.1, h0.2.2.2, hf, rfl, rfl⟩)
theorem quot_ok : SoundF Tryz.prog 32 quotR := sound [(24, byR)] (orc_cons by_ok orc_nil) Tryz.func32 (by kernel_rfl) (by kernel_rfl) fun us u hR => ⟨0, fun C E hC => by
  obtain ⟨rfl, hu⟩ := hR
  obtain ⟨s, l, d, k1, e⟩ := by_q (hC 24 byR (by simp)) 1 1 1 (by decide) (by decide +kernel) (by decide +kernel)
  have hu : u = .s 7 [[ui 2, ui 0, ui 0, ui 0, ub false, .l [], .l []], [ui 2, ui 0, ui 0, ui 1, ub false, .l [], .l []], [ui 6, ui 0, ui 1, ui 0, ub false, .l [], .l []], [ui 1, ui 0, ui 0, ui 0, ub s, .l l, .l d], [ui 4, ui 2, ui 3, ui 0, ub false, .l [], .l []]] := by
    rw [hu]
    unfold cU quotC
    rw [← e]
    rfl
  clear e
  cbv; (repeat ((first | refine ln fun _ _ _ => ?_ | refine tt ?_ | refine ff ?_ | refine wr fun _ _ => ?_ | refine wu fun _ _ => ?_ | refine rp fun _ _ _ => ?_ | refine cp fun _ => ?_ | with_reducible refine bq ?_ | refine cl ?_ | refine sd ?_ | intro _ _); cbv)); exact hu.symm⟩
def ofR' (us : List U) (u : U) : Prop := ∃ c i xs x, (∀ t ∈ c, LB t.q) ∧ cnt c ≤ 1000000 ∧ (∀ a ∈ xs, LB a) ∧ cnt xs ≤ 1000000 ∧ nilEq x (qsU xs) ∧ us = [cU c, ui i, x] ∧ u = uR4 (ofS c i xs)
theorem of_ok' : SoundF Tryz.prog 13 ofR' := relax of_ok fun us u ⟨c, i, xs, x, h1, h2, h3, h4, h5, h6, h7⟩ => ⟨_, u, ⟨c, i, xs, h1, h2, h3, h4, rfl, h7⟩, by rw [h6]; exact ⟨.inl rfl, .inl rfl, h5, trivial⟩, .inl rfl⟩
theorem LB_q {q : Rat} (h : fits q = true) : LB (ratOf q) := (LR_ratOf h).wide
theorem quot_LB : ∀ t ∈ quotC, LB t.q := fun t h => by
  unfold quotC at h
  simp only [List.mem_cons, List.not_mem_nil, or_false] at h
  rcases h with rfl | rfl | rfl | rfl | rfl <;> first | exact LB_none | exact LB_q fits_one
theorem w1 : ofS quotC 4 [ratOf 3, ratOf 2] = to4 (ratOf (1 / 2)) := by decide +kernel
theorem w2 : ofS quotC 4 [ratOf 3, ratOf 0] = bad 3 := by decide +kernel
theorem w3 : ofS quotC 4 [ratOf 3] = bad 1 := by decide +kernel
theorem w4 : ofS quotC 3 [] = to4 (ratOf 1) := by decide +kernel
theorem w5 : ofS quotC 5 [ratOf 3, ratOf 2] = bad 1 := by decide +kernel
theorem w6 : divS' quotC 4 [ratOf 3, ratOf 2] = ([1], 0) := by decide +kernel
theorem w7 : mayC quotC 2 = true ∧ needs quotC 2 = [true, true, true, false, false] := by decide +kernel
def yesR (us : List U) (u : U) : Prop := us = [] ∧ u = ub true
theorem wakes_ok : SoundF Tryz.prog 10 yesR := sound [(24, byR), (32, quotR), (13, ofR'), (15, divR), (20, needsR), (17, keepR), (18, keepIntsR), (19, keepBoolsR)] (orc_cons by_ok (orc_cons quot_ok (orc_cons of_ok' (orc_cons div_ok (orc_cons needs_ok (orc_cons keep_ok (orc_cons keepInts_ok (orc_cons keepBools_ok orc_nil)))))))) Tryz.func10 (by kernel_rfl) (by kernel_rfl) fun us u hR => ⟨0, fun C E hC => by
  obtain ⟨rfl, hu⟩ := hR
  have kb := hC 24 byR (by simp)
  obtain ⟨s3, l3, d3, b3, e3⟩ := by_q kb 3 1 3 (by decide) (by decide +kernel) (by decide +kernel)
  obtain ⟨s2, l2, d2, b2, e2⟩ := by_q kb 2 1 2 (by decide) (by decide +kernel) (by decide +kernel)
  obtain ⟨s0, l0, d0, b0, e0⟩ := by_q kb 0 1 0 (by decide) (by decide +kernel) (by decide +kernel)
  obtain ⟨sh, lh, dh, bh, eh⟩ := by_q kb 1 2 (1 / 2) (by decide) (by decide +kernel) (by decide +kernel)
  obtain ⟨s1, l1, d1, b1, e1⟩ := by_q kb 1 1 1 (by decide) (by decide +kernel) (by decide +kernel)
  have kq := hC 32 quotR (by simp) _ _ ⟨rfl, rfl⟩
  have L3 : LB (s3, l3, d3) := e3 ▸ LB_q (by decide +kernel)
  have L2 : LB (s2, l2, d2) := e2 ▸ LB_q (by decide +kernel)
  have L0 : LB (s0, l0, d0) := e0 ▸ LB_q (by decide +kernel)
  have L32 : ∀ a ∈ [(s3, l3, d3), (s2, l2, d2)], LB a := by simp [L3, L2]
  have c5 : cnt quotC ≤ 1000000 := by decide
  have cc : ∀ a b : R3, cnt [a, b] ≤ 1000000 := fun _ _ => by unfold cnt; simp
  have c1 : ∀ a : R3, cnt [a] ≤ 1000000 := fun _ => by unfold cnt; simp
  have o1 := hC 13 ofR' (by simp) _ _ ⟨quotC, 4, [(s3, l3, d3), (s2, l2, d2)], _, quot_LB, c5, L32, cc _ _, .inl rfl, rfl, rfl⟩
  have o2 := hC 13 ofR' (by simp) _ _ ⟨quotC, 4, [(s3, l3, d3), (s0, l0, d0)], _, quot_LB, c5, by simp [L3, L0], cc _ _, .inl rfl, rfl, rfl⟩
  have o3 := hC 13 ofR' (by simp) _ _ ⟨quotC, 4, [(s3, l3, d3)], _, quot_LB, c5, by simp [L3], c1 _, .inl rfl, rfl, rfl⟩
  have o4 := hC 13 ofR' (by simp) _ _ ⟨quotC, 3, [], nilU, quot_LB, c5, by simp, by decide, .inr ⟨rfl, 3, rfl⟩, rfl, rfl⟩
  have o5 := hC 13 ofR' (by simp) _ _ ⟨quotC, 5, [(s3, l3, d3), (s2, l2, d2)], _, quot_LB, c5, L32, cc _ _, .inl rfl, rfl, rfl⟩
  have o6 := hC 15 divR (by simp) _ _ ⟨quotC, 4, [(s3, l3, d3), (s2, l2, d2)], quot_LB, c5, L32, cc _ _, rfl, rfl⟩
  have o7 := hC 20 needsR (by simp) _ _ ⟨quotC, 2, quot_LB, c5, rfl, rfl⟩
  rw [show ofS quotC 4 [(s3, l3, d3), (s2, l2, d2)] = (sh, lh, dh, 0) by rw [e3, e2, w1, ← eh]; rfl] at o1
  rw [show ofS quotC 4 [(s3, l3, d3), (s0, l0, d0)] = bad 3 by rw [e3, e0, w2]] at o2
  rw [show ofS quotC 4 [(s3, l3, d3)] = bad 1 by rw [e3, w3]] at o3
  rw [show ofS quotC 3 [] = (s1, l1, d1, 0) by rw [w4, ← e1]; rfl] at o4
  rw [show ofS quotC 5 [(s3, l3, d3), (s2, l2, d2)] = bad 1 by rw [e3, e2, w5]] at o5
  rw [show divS' quotC 4 [(s3, l3, d3), (s2, l2, d2)] = ([1], 0) by rw [e3, e2, w6]] at o6
  unfold needsU at o7
  rw [if_pos w7.1, show (2 : Int).toNat = 2 by rfl, w7.2] at o7
  have r1 := hC 17 keepR (by simp) _ _ ⟨(sh, lh, dh), (sh, lh, dh), by rw [eh]; decide +kernel, by rw [eh]; decide +kernel, rfl, rfl⟩
  have r2 := hC 17 keepR (by simp) _ _ ⟨(s1, l1, d1), (s1, l1, d1), by rw [e1]; decide +kernel, by rw [e1]; decide +kernel, rfl, rfl⟩
  have r3 := hC 18 keepIntsR (by simp) _ _ ⟨[1], [1], by decide, rfl, rfl⟩
  have r4 := hC 19 keepBoolsR (by simp) _ _ ⟨[true, true, true, false, false], [true, true, true, false, false], by decide, rfl, rfl⟩
  rw [decide_eq_true rfl] at r1 r2 r3 r4
  obtain ⟨cs, hcs⟩ : ∃ cs, cU quotC = .s 7 cs := ⟨_, rfl⟩
  rw [hcs] at o1 o2 o3 o4 o5 o6 o7 kq
  have o1 : C 13 [.s 7 cs, ui 4, .s 3 [[ub s3, .l l3, .l d3], [ub s2, .l l2, .l d2]]] (.tup [.agg [ub sh, .l lh, .l dh], ui 0]) := o1
  have o2 : C 13 [.s 7 cs, ui 4, .s 3 [[ub s3, .l l3, .l d3], [ub s0, .l l0, .l d0]]] (.tup [.agg [ub false, .l [], .l []], ui 3]) := o2
  have o3 : C 13 [.s 7 cs, ui 4, .s 3 [[ub s3, .l l3, .l d3]]] (.tup [.agg [ub false, .l [], .l []], ui 1]) := o3
  have o4 : C 13 [.s 7 cs, ui 3, nilU] (.tup [.agg [ub s1, .l l1, .l d1], ui 0]) := o4
  have o5 : C 13 [.s 7 cs, ui 5, .s 3 [[ub s3, .l l3, .l d3], [ub s2, .l l2, .l d2]]] (.tup [.agg [ub false, .l [], .l []], ui 1]) := o5
  have o6 : C 15 [.s 7 cs, ui 4, .s 3 [[ub s3, .l l3, .l d3], [ub s2, .l l2, .l d2]]] (.tup [.s 1 [[ui 1]], ui 0]) := o6
  have o7 : C 20 [.s 7 cs, ui 2] (.s 1 [[ub true], [ub true], [ub true], [ub false], [ub false]]) := o7
  have r1 : C 17 [.agg [ub sh, .l lh, .l dh], .agg [ub sh, .l lh, .l dh]] (ub true) := r1
  have r2 : C 17 [.agg [ub s1, .l l1, .l d1], .agg [ub s1, .l l1, .l d1]] (ub true) := r2
  have r3 : C 18 [.s 1 [[ui 1]], .s 1 [[ui 1]]] (ub true) := r3
  have r4 : C 19 [.s 1 [[ub true], [ub true], [ub true], [ub false], [ub false]], .s 1 [[ub true], [ub true], [ub true], [ub false], [ub false]]] (ub true) := r4
  clear kb hC L3 L2 L0 L32 cc c1 c5 hcs e0 e1 e2 e3 eh
  cbv
  (repeat ((first | with_reducible refine ln fun _ _ _ => ?_ | refine tt ?_ | refine ff ?_ | with_reducible refine wr fun _ _ => ?_ | with_reducible refine wu fun _ _ => ?_ | refine rp fun _ _ _ => ?_ | refine cp fun _ => ?_ | with_reducible refine bq ?_ | refine cl ?_ | refine sd ?_); cbv))
  refine el (us := [ub s3, .l l3, .l d3]) ?_ (by decide) rfl
  cbv
  (repeat ((first | with_reducible refine ln fun _ _ _ => ?_ | refine tt ?_ | refine ff ?_ | with_reducible refine wr fun _ _ => ?_ | with_reducible refine wu fun _ _ => ?_ | refine rp fun _ _ _ => ?_ | refine cp fun _ => ?_ | with_reducible refine bq ?_ | refine cl ?_ | refine sd ?_); cbv))
  refine sd ?_ (by unfold cnt; simp)
  intro ys hys
  obtain rfl : ys = [[ub s3, .l l3, .l d3]] := hys
  cbv
  (repeat ((first | with_reducible refine ln fun _ _ _ => ?_ | refine tt ?_ | refine ff ?_ | with_reducible refine wr fun _ _ => ?_ | with_reducible refine wu fun _ _ => ?_ | refine rp fun _ _ _ => ?_ | refine cp fun _ => ?_ | with_reducible refine bq ?_ | refine cl ?_ | refine sd ?_); cbv))
  exact hu.symm⟩
end Go.Proofs.YtheciiemknmnoaaGreat.Rd
end
section
set_option linter.unusedVariables false
set_option linter.unusedSimpArgs false
set_option maxRecDepth 100000
set_option maxHeartbeats 4000000
namespace Go.Proofs.YtheciiemknmnoaaGreat.Rd
open Go Go.RowKit Go.Proofs.YtheciiemknmnoaaGreatW.PrintWords Go.Proofs.YtheciiemknmnoaaGreat.PL Go.Proofs.YtheciiemknmnoaaGreat.Num

theorem relaxG {P : Program} {f : FuncId} {R R' : List U → U → Prop} (hs : SoundF P f R) (h : ∀ us u, R' us u → ∃ us' u', R us' u' ∧ nilEqs us us' ∧ ∀ ok W v, Rep ok W noM u' v → Rep ok W noM u v) : SoundF P f R' := fun us u hR => by
  obtain ⟨us', u', h1, h2, h3⟩ := h us u hR
  obtain ⟨hb, hc⟩ := hs us' u' h1
  refine ⟨hb, fun W S cs hr => ?_⟩
  exact (hc W S cs (nilEqs_reps h2 hr)).mono fun e W' ⟨v, e1, e2, e3⟩ => ⟨v, e1, h3 _ _ _ e2, e3⟩
def divR' (us : List U) (u : U) : Prop := ∃ c i xs, (∀ t ∈ c, LB t.q) ∧ cnt c ≤ 1000000 ∧ (∀ a ∈ xs, LB a) ∧ cnt xs ≤ 1000000 ∧ us = [cU c, ui i, qsU xs] ∧ u = .tup [.s 1 (uis (divS' c i xs).1), ui (divS' c i xs).2]
theorem div_ok' : SoundF Tryz.prog 15 divR' := relaxG div_ok fun us u ⟨c, i, xs, h1, h2, h3, h4, h5, h6⟩ => by
  refine ⟨us, _, ⟨c, i, xs, h1, h2, h3, h4, h5, rfl⟩, eqs_refl _, ?_⟩
  rw [h6]
  split
  · rename_i h
    rw [h]
    rintro ok W v ⟨vs, e, hr⟩
    exact ⟨vs, e, nilEqs_reps (us := [nilU, ui (divS' c i xs).2]) ⟨.inr ⟨rfl, 1, rfl⟩, .inl rfl, trivial⟩ hr⟩
  · exact fun _ _ _ h => h
def divsR (us : List U) (u : U) : Prop := ∃ c k xs, (∀ t ∈ c, TmOk t) ∧ cnt c ≤ 9223372036854775807 ∧ 0 ≤ k ∧ k ≤ 255 ∧ (∀ a ∈ xs, LB a) ∧ cnt xs ≤ 9223372036854775807 ∧ us = [cU c, .v (.int .u8 k), qsU xs] ∧ u = ub true
theorem largeC_no {c : List Tm} (h : largeC c = false) : cnt c ≤ 400 := by
  unfold largeC at h
  simp only [Bool.or_eq_false_iff, decide_eq_false_iff_not] at h
  have := h.1.1
  omega
theorem longL_no {xs : List R3} (h : longL xs = false) : cnt xs ≤ 100 := by
  unfold longL at h
  simp only [Bool.or_eq_false_iff, decide_eq_false_iff_not] at h
  have := h.2
  omega
theorem tmod_in {x n r : Int} (h0 : 0 ≤ x) (hn : 0 < n) (h : r = Int.tmod x n) : 0 ≤ r ∧ r < n := by
  rw [Int.tmod_eq_emod_of_nonneg h0] at h
  rw [h]
  exact ⟨Int.emod_nonneg _ (by omega), Int.emod_lt_of_pos _ hn⟩
structure Asked (c : List Tm) (i : Int) (nd bs : List Bool) : Prop where
  nl : cnt nd = cnt c
  bl : cnt bs = cnt c
  root : nd[i.toNat]? = some true
  mem : ∀ q : Int, 0 ≤ q → q ≤ i → (bs[q.toNat]? = some true ↔ ∃ (j : Int) (t : Tm), q < j ∧ j ≤ i ∧ nd[j.toNat]? = some true ∧ c[j.toNat]? = some t ∧ byI t q)
  nd : ∀ q : Int, 0 ≤ q → bs[q.toNat]? = some true → nd[q.toNat]? = some true
  all : picks bs (i + 1).toNat = picks bs c.length
theorem asked_of {c : List Tm} {i : Int} (h0 : 0 ≤ i) (h1 : i < cnt c) (hg : goodC c = true) : Asked c i (needs c i.toNat) (divM c (needs c i.toNat) c.length) := by
  have ha := ahead_of hg
  have key : ∀ q : Nat, (divM c (needs c i.toNat) c.length)[q]? = some true → ∃ (j : Nat) (t : Tm), q < j ∧ (j : Int) ≤ i ∧ (needs c i.toNat)[j]? = some true ∧ c[j]? = some t ∧ byI t q := fun q h => by
    have hq : q < c.length := by
      have := (List.getElem?_eq_some_iff.1 h).1
      have h2 := cnt_eq (divM_len c (needs c i.toNat) c.length)
      omega
    obtain ⟨j, t, _, h3, h4, h5⟩ := (divM_true ha hq _).1 h
    have := ha j t h4 q (byI_kid h5)
    have := needs_le ha h3
    exact ⟨j, t, by omega, by omega, h3, h4, h5⟩
  refine ⟨needs_len _ _, divM_len _ _ _, needs_root h0 h1, fun q q0 q1 => ⟨fun h => ?_, fun ⟨j, t, h2, h3, h4, h5, h6⟩ => ?_⟩, fun q q0 h => ?_, ?_⟩
  · obtain ⟨j, t, h2, h3, h4, h5, h6⟩ := key _ h
    refine ⟨(j : Int), t, by omega, h3, by simpa using h4, by simpa using h5, ?_⟩
    rwa [show ((q.toNat : Nat) : Int) = q by omega] at h6
  · have hl := (List.getElem?_eq_some_iff.1 h5).1
    refine (divM_true ha (by omega) _).2 ⟨j.toNat, t, hl, h4, h5, ?_⟩
    rwa [show ((q.toNat : Nat) : Int) = q by omega]
  · obtain ⟨j, t, h2, h3, h4, h5, h6⟩ := key _ h
    exact needs_kid ha h5 (by have := byI_kid h6; rwa [show ((q.toNat : Nat) : Int) = q by omega] at this) h4
  · unfold cnt at h1
    refine (picks_none (fun j hj h => ?_) _ (by omega)).symm
    obtain ⟨j', t, h2, h3, _⟩ := key _ h
    omega
theorem pick_at {bs : List Bool} {n : Nat} {q : Int} (h0 : 0 ≤ q) (h1 : (q + 1).toNat ≤ n) (hb : bs[q.toNat]? = some true) : (picks bs n)[(cnt (picks bs q.toNat)).toNat]? = some q ∧ cnt (picks bs q.toNat) + 1 = cnt (picks bs (q + 1).toNat) ∧ cnt (picks bs (q + 1).toNat) ≤ cnt (picks bs n) := by
  obtain ⟨rest, hr⟩ := picks_pre bs n h1
  have hy := picks_yes h0 hb
  refine ⟨?_, ?_, ?_⟩
  · rw [hr, hy]
    unfold cnt
    simp
  · rw [hy]
    unfold cnt
    simp
  · rw [hr]
    unfold cnt
    simp
    omega
theorem divs_ok : SoundF Tryz.prog 5 divsR := sound [(7, largeCR), (8, longLR), (10, yesR), (15, divR'), (20, needsR), (25, mayR)] (orc_cons largeC_ok (orc_cons longL_ok (orc_cons wakes_ok (orc_cons div_ok' (orc_cons needs_ok (orc_cons may_ok orc_nil)))))) Tryz.func5 (by kernel_rfl) (by kernel_rfl) fun us u hR => by
  obtain ⟨c, kk, xs, hq, hn, k0, k1, hx, hxn, rfl, hu⟩ := hR
  obtain ⟨r, hr⟩ : ∃ r, (cnt c).toNat + 10 < r := ⟨_, Nat.lt_succ_self _⟩
  refine ⟨r, fun C E hC => ?_⟩
  have hqL : ∀ t ∈ c, LB t.q := fun t h => (hq t h).q
  have kl := hC 7 largeCR (by simp) _ _ ⟨c, hn, rfl, rfl⟩
  have kx := hC 8 longLR (by simp) _ _ ⟨xs, hxn, rfl, rfl⟩
  have kw := hC 10 yesR (by simp) _ _ ⟨rfl, rfl⟩
  have kD := fun (h1 : cnt c ≤ 1000000) (h2 : cnt xs ≤ 1000000) i => hC 15 divR' (by simp) _ _ ⟨c, i, xs, hqL, h1, hx, h2, rfl, rfl⟩
  have kN := fun (h1 : cnt c ≤ 1000000) i => hC 20 needsR (by simp) _ _ ⟨c, i, hqL, h1, rfl, rfl⟩
  have kM := fun (h1 : cnt c ≤ 1000000) (h2 : cnt xs ≤ 1000000) i => hC 25 mayR (by simp) _ _ ⟨c, i, xs, hqL, h1, hx, h2, rfl, rfl⟩
  have hm := fun i (h0 : 0 ≤ i) (h1 : i < cnt c) => nth_map (c := c) tU h0 h1
  have hc := cnt_map c tU
  have hc0 := cnt0 c
  have hl4 := fun h => largeC_no (c := c) h
  have hl1 := fun h => longL_no (xs := xs) h
  have hmb : ∀ i, madeB c i xs = true → mayC c i = true ∧ 0 ≤ i ∧ i < cnt c ∧ goodC c = true := fun i h => by
    unfold madeB mayC at h
    simp only [Bool.and_eq_true, decide_eq_true_eq] at h
    exact ⟨by unfold mayC; simp only [Bool.and_eq_true, decide_eq_true_eq]; exact h.1.1, h.1.1.1.1, h.1.1.1.2, h.1.1.2⟩
  clear hC hq hx hqL
  unfold cU qsU at *
  generalize c.map tU = cs at *
  generalize xs.map qU = ys at *
  generalize largeC c = b1 at *
  generalize longL xs = b2 at *
  cases b1
  case true =>
    clear kD kN kM hm hl4 hl1 hmb
    cbv
    (repeat ((first | with_reducible refine ln fun _ _ _ => ?_ | refine tt ?_ | refine ff ?_ | refine tt ?_ rfl | with_reducible refine wr fun _ _ => ?_ | with_reducible refine wu fun _ _ => ?_ | refine rp fun _ _ _ => ?_ | refine cp fun _ => ?_ | with_reducible refine bq ?_ | refine cl ?_ | refine sd ?_); cbv))
    exact hu.symm
  cases b2
  case true =>
    clear kD kN kM hm hl4 hl1 hmb
    cbv
    (repeat ((first | with_reducible refine ln fun _ _ _ => ?_ | refine tt ?_ | refine ff ?_ | refine tt ?_ rfl | with_reducible refine wr fun _ _ => ?_ | with_reducible refine wu fun _ _ => ?_ | refine rp fun _ _ _ => ?_ | refine cp fun _ => ?_ | with_reducible refine bq ?_ | refine cl ?_ | refine sd ?_); cbv))
    exact hu.symm
  have hl4 := hl4 rfl
  have hl1 := hl1 rfl
  have kD := kD (by omega) (by omega)
  have kN := kN (by omega)
  have kM := kM (by omega) (by omega)
  cbv
  rcases Decidable.em (cnt c = 0) with hz | hz
  · clear kD kN kM hm hmb
    (repeat ((first | with_reducible refine ln fun _ _ _ => ?_ | refine tt ?_ | refine ff ?_ | refine tt ?_ rfl | with_reducible refine wr fun _ _ => ?_ | with_reducible refine wu fun _ _ => ?_ | refine rp fun _ _ _ => ?_ | refine cp fun _ => ?_ | with_reducible refine bq ?_ | refine cl ?_ | refine sd ?_); cbv))
    exact hu.symm
  (repeat ((first | with_reducible refine ln fun _ _ _ => ?_ | refine tt ?_ | refine ff ?_ | refine tt ?_ rfl | with_reducible refine wr fun _ _ => ?_ | with_reducible refine wu fun _ _ => ?_ | refine rp fun _ _ _ => ?_ | refine cp fun _ => ?_ | with_reducible refine bq ?_ | refine cl ?_ | refine sd ?_); cbv))
  intro i hi
  rename_i x hx n hn' hn''
  have hi := tmod_in (by omega) (by omega) hi
  have kD := kD i
  have kN := kN i
  have kM := kM i
  unfold divS' at kD
  unfold needsU at kN
  cases hmade : madeB c i xs
  · rw [hmade] at kD kM
    simp only [Bool.false_eq_true, if_false] at kD
    have kD : C 15 [.s 7 cs, ui i, .s 3 ys] (.tup [.s 1 [], ui 1]) := kD
    generalize (if mayC c i = true then U.s 1 (uB (needs c i.toNat)) else nilU) = nu at *
    clear hm hmb hmade
    have hz0 : cnt ([] : Rows) = 0 := rfl
    cbv
    (repeat ((first | with_reducible refine ln fun _ _ _ => ?_ | refine tt ?_ | refine ff ?_ | refine tt ?_ rfl | with_reducible refine wr fun _ _ => ?_ | with_reducible refine wu fun _ _ => ?_ | refine rp fun _ _ _ => ?_ | refine cp fun _ => ?_ | with_reducible refine bq ?_ | refine cl ?_ | refine sd ?_); cbv))
    exact hu.symm
  rw [hmade] at kD kM
  simp only [if_true] at kD
  obtain ⟨g1, g2, g3, g4⟩ := hmb i hmade
  rw [if_pos g1] at kN
  have hA := asked_of g2 g3 g4
  clear g1 g4 hmade hmb
  generalize needs c i.toNat = nd at *
  generalize divM c nd c.length = bs at *
  have hnx := fun j (h0 : 0 ≤ j) (h1 : j < cnt nd) => uB_nth (s := nd) h0 h1
  have hnc := uB_len nd
  generalize uB nd = nds at *
  obtain ⟨l, hl⟩ : ∃ l, l = picks bs c.length := ⟨_, rfl⟩
  rw [← hl] at kD
  have hlx := fun j (h0 : 0 ≤ j) (h1 : j < cnt l) => nth_map (c := l) (fun x => [ui x]) h0 h1
  have hlc := cnt_map l fun x => [ui x]
  unfold uis at kD
  generalize l.map (fun x => [ui x]) = ls at *
  have hrt := hA.root
  have hnl := hA.nl
  obtain ⟨b0, hb0, hz0⟩ := hnx i hi.1 (by omega)
  rw [hrt] at hb0
  injection hb0 with hb0
  subst hb0
  cbv
  (repeat ((first | with_reducible refine ln fun _ _ _ => ?_ | refine tt ?_ | refine ff ?_ | refine tt ?_ rfl | with_reducible refine wr fun _ _ => ?_ | with_reducible refine wu fun _ _ => ?_ | refine rp fun _ _ _ => ?_ | refine cp fun _ => ?_ | with_reducible refine bq ?_ | refine cl ?_ | refine sd ?_); cbv))
  refine el ?_ (by omega) hz0
  cbv
  (repeat ((first | with_reducible refine ln fun _ _ _ => ?_ | refine tt ?_ | refine ff ?_ | refine tt ?_ rfl | with_reducible refine wr fun _ _ => ?_ | with_reducible refine wu fun _ _ => ?_ | refine rp fun _ _ _ => ?_ | refine cp fun _ => ?_ | with_reducible refine bq ?_ | refine cl ?_ | refine sd ?_); cbv))
  refine lets [0, 7, 8, 10, 11, 12] ?_
  cbv
  refine loop_inv (fun j a h => ∃ q m : Int, 0 ≤ q ∧ q ≤ i + 1 ∧ j = (i + 1 - q).toNat ∧ m = cnt (picks bs q.toNat) ∧ a = [.s 7 cs, .lost, .lost, .lost, .lost, .lost, .lost, ui i, .s 1 ls, .lost, .s 1 nds, ui m, ui q, .lost, .lost, .lost, .lost, .lost, .lost, .lost, .lost, .lost, .lost, .lost, .lost, .lost, .lost, .lost, .lost, .lost, .lost, .lost, .lost, .lost, .lost, .lost, .lost, .lost, .lost, .lost, .lost, .lost, .lost, .lost, .lost, .lost, .lost, .lost, .lost, .lost, .lost, .lost, .lost, .lost, .lost, .lost, .lost, .lost, .lost, .lost, .lost, .lost, .lost, .lost, .lost, .lost, .lost, .lost, .lost, .lost, .lost, .lost, .lost, .lost, .lost, .lost, .lost, .lost, .lost, .lost, .lost, .lost, .lost, .lost, .lost, .lost, .lost, .lost, .lost, .lost, .lost, .lost, .lost, .lost, .lost, .lost, .lost, .lost, .lost, .lost, .lost, .lost, .lost, .lost, .lost, .lost, .lost, .lost, .lost, .lost, .lost, .lost, .lost, .lost, .lost, .lost, .lost, .lost, .lost, .lost, .lost, .lost, .lost, .lost, .lost, .lost, .lost, .lost, .lost, .lost, .lost, .lost, .lost, .lost, .lost, .lost, .lost, .lost, .lost, .lost, .lost, .lost, .lost, .lost, .lost, .lost, .lost, .lost, .lost, .lost, .lost, .lost, .lost, .lost, .lost, .lost, .lost, .lost, .lost, .lost, .lost, .lost, .lost] ∧ h = []) ?_ r (i + 1).toNat _ _ (by omega) ⟨0, 0, by omega, by omega, by omega, rfl, rfl, rfl⟩
  rintro j a h K ⟨q, m, q0, q1, hj, hmq, rfl, rfl⟩ hK
  rcases Decidable.em (q ≤ i) with hlt | hlt
  · cbv
    (repeat ((first | with_reducible refine ln fun _ _ _ => ?_ | refine tt ?_ | refine ff ?_ | refine tt ?_ rfl | with_reducible refine wr fun _ _ => ?_ | with_reducible refine wu fun _ _ => ?_ | refine rp fun _ _ _ => ?_ | refine cp fun _ => ?_ | with_reducible refine bq ?_ | refine cl ?_ | refine sd ?_); cbv))
    rename_i p0 hp0
    refine lets [0, 7, 8, 10, 11, 12, 13, 14] ?_
    cbv
    refine loop_inv (fun j a h => ∃ (p : Int) (b : Bool), q + 1 ≤ p ∧ p ≤ i + 1 ∧ j = (i + 1 - p).toNat ∧ (b = true ↔ ∃ (j : Int) (t : Tm), q < j ∧ j < p ∧ nd[j.toNat]? = some true ∧ c[j.toNat]? = some t ∧ byI t q) ∧ a = [.s 7 cs, .lost, .lost, .lost, .lost, .lost, .lost, ui i, .s 1 ls, .lost, .s 1 nds, ui m, ui q, ub b, ui p, .lost, .lost, .lost, .lost, .lost, .lost, .lost, .lost, .lost, .lost, .lost, .lost, .lost, .lost, .lost, .lost, .lost, .lost, .lost, .lost, .lost, .lost, .lost, .lost, .lost, .lost, .lost, .lost, .lost, .lost, .lost, .lost, .lost, .lost, .lost, .lost, .lost, .lost, .lost, .lost, .lost, .lost, .lost, .lost, .lost, .lost, .lost, .lost, .lost, .lost, .lost, .lost, .lost, .lost, .lost, .lost, .lost, .lost, .lost, .lost, .lost, .lost, .lost, .lost, .lost, .lost, .lost, .lost, .lost, .lost, .lost, .lost, .lost, .lost, .lost, .lost, .lost, .lost, .lost, .lost, .lost, .lost, .lost, .lost, .lost, .lost, .lost, .lost, .lost, .lost, .lost, .lost, .lost, .lost, .lost, .lost, .lost, .lost, .lost, .lost, .lost, .lost, .lost, .lost, .lost, .lost, .lost, .lost, .lost, .lost, .lost, .lost, .lost, .lost, .lost, .lost, .lost, .lost, .lost, .lost, .lost, .lost, .lost, .lost, .lost, .lost, .lost, .lost, .lost, .lost, .lost, .lost, .lost, .lost, .lost, .lost, .lost, .lost, .lost, .lost, .lost, .lost, .lost, .lost, .lost, .lost, .lost, .lost] ∧ h = []) ?_ r (i - q).toNat _ _ (by omega) ⟨q + 1, false, by omega, by omega, by omega, ⟨fun h => (by cases h), fun ⟨j, t, h1, h2, _⟩ => absurd h1 (by omega)⟩, by rw [hp0], rfl⟩
    rintro j2 a h K2 ⟨p, b, p1, p2, hj2, hb, rfl, rfl⟩ hK2
    rcases Decidable.em (p ≤ i) with hp | hp
    · obtain ⟨t, ht, hy⟩ := hm p (by omega) (by omega)
      obtain ⟨bp, hbp, hzp⟩ := hnx p (by omega) (by omega)
      have hnext : ∀ b', (b' = true ↔ b = true ∨ (bp = true ∧ byI t q)) → (b' = true ↔ ∃ (j : Int) (t : Tm), q < j ∧ j < p + 1 ∧ nd[j.toNat]? = some true ∧ c[j.toNat]? = some t ∧ byI t q) := fun b' h => by
        rw [h, hb]
        constructor
        · rintro (⟨j, t, h1, h2, h3⟩ | ⟨h1, h2⟩)
          · exact ⟨j, t, h1, by omega, h3⟩
          · exact ⟨p, t, by omega, by omega, by rw [hbp, h1], ht, h2⟩
        · rintro ⟨j, t', h1, h2, h3, h4, h5⟩
          by_cases e : j = p
          · subst e
            rw [hbp] at h3
            rw [ht] at h4
            injection h3 with h3
            injection h4 with h4
            exact .inr ⟨h3, h4 ▸ h5⟩
          · exact .inl ⟨j, t', h1, by omega, h3, h4, h5⟩
      obtain ⟨kd, ta, tb, tn, ts, tl, td⟩ := t
      unfold byI at hnext
      dsimp only at hnext
      clear hb ht hbp hK hm hnx hlx hA kD kN kM kl kx
      cases b
      · cases bp
        · cbv
          (repeat ((first | with_reducible refine ln fun _ _ _ => ?_ | refine tt ?_ | refine ff ?_ | refine tt ?_ rfl | with_reducible refine wr fun _ _ => ?_ | with_reducible refine wu fun _ _ => ?_ | refine rp fun _ _ _ => ?_ | refine cp fun _ => ?_ | with_reducible refine bq ?_ | refine cl ?_ | refine sd ?_); cbv))
          refine el ?_ (by omega) hzp
          cbv
          (repeat ((first | with_reducible refine ln fun _ _ _ => ?_ | refine tt ?_ | refine ff ?_ | refine tt ?_ rfl | with_reducible refine wr fun _ _ => ?_ | with_reducible refine wu fun _ _ => ?_ | refine rp fun _ _ _ => ?_ | refine cp fun _ => ?_ | with_reducible refine bq ?_ | refine cl ?_ | refine sd ?_); cbv))
          rename_i p' hp'
          refine lets [0, 7, 8, 10, 11, 12, 13, 14] ?_
          exact hK2 (i + 1 - (p + 1)).toNat _ _ (by omega) ⟨p + 1, false, by omega, by omega, rfl, hnext false (by simp [*]), by rw [hp']; rfl, rfl⟩
        · rcases Decidable.em (kd = 6) with h6 | h6
          · rcases Decidable.em (tb = q) with h7 | h7
            · cbv
              (repeat ((first | with_reducible refine ln fun _ _ _ => ?_ | refine tt ?_ | refine ff ?_ | refine tt ?_ rfl | with_reducible refine wr fun _ _ => ?_ | with_reducible refine wu fun _ _ => ?_ | refine rp fun _ _ _ => ?_ | refine cp fun _ => ?_ | with_reducible refine bq ?_ | refine cl ?_ | refine sd ?_); cbv))
              refine el ?_ (by omega) hzp
              cbv
              (repeat ((first | with_reducible refine ln fun _ _ _ => ?_ | refine tt ?_ | refine ff ?_ | refine tt ?_ rfl | with_reducible refine wr fun _ _ => ?_ | with_reducible refine wu fun _ _ => ?_ | refine rp fun _ _ _ => ?_ | refine cp fun _ => ?_ | with_reducible refine bq ?_ | refine cl ?_ | refine sd ?_); cbv))
              repeat (refine el ?_ (by omega) hy; cbv; (repeat ((first | with_reducible refine ln fun _ _ _ => ?_ | refine tt ?_ | refine ff ?_ | refine tt ?_ rfl | with_reducible refine wr fun _ _ => ?_ | with_reducible refine wu fun _ _ => ?_ | refine rp fun _ _ _ => ?_ | refine cp fun _ => ?_ | with_reducible refine bq ?_ | refine cl ?_ | refine sd ?_); cbv)))
              rename_i p' hp'
              refine lets [0, 7, 8, 10, 11, 12, 13, 14] ?_
              exact hK2 (i + 1 - (p + 1)).toNat _ _ (by omega) ⟨p + 1, true, by omega, by omega, rfl, hnext true (by simp [*]), by rw [hp']; rfl, rfl⟩
            · cbv
              (repeat ((first | with_reducible refine ln fun _ _ _ => ?_ | refine tt ?_ | refine ff ?_ | refine tt ?_ rfl | with_reducible refine wr fun _ _ => ?_ | with_reducible refine wu fun _ _ => ?_ | refine rp fun _ _ _ => ?_ | refine cp fun _ => ?_ | with_reducible refine bq ?_ | refine cl ?_ | refine sd ?_); cbv))
              refine el ?_ (by omega) hzp
              cbv
              (repeat ((first | with_reducible refine ln fun _ _ _ => ?_ | refine tt ?_ | refine ff ?_ | refine tt ?_ rfl | with_reducible refine wr fun _ _ => ?_ | with_reducible refine wu fun _ _ => ?_ | refine rp fun _ _ _ => ?_ | refine cp fun _ => ?_ | with_reducible refine bq ?_ | refine cl ?_ | refine sd ?_); cbv))
              repeat (refine el ?_ (by omega) hy; cbv; (repeat ((first | with_reducible refine ln fun _ _ _ => ?_ | refine tt ?_ | refine ff ?_ | refine tt ?_ rfl | with_reducible refine wr fun _ _ => ?_ | with_reducible refine wu fun _ _ => ?_ | refine rp fun _ _ _ => ?_ | refine cp fun _ => ?_ | with_reducible refine bq ?_ | refine cl ?_ | refine sd ?_); cbv)))
              rename_i p' hp'
              refine lets [0, 7, 8, 10, 11, 12, 13, 14] ?_
              exact hK2 (i + 1 - (p + 1)).toNat _ _ (by omega) ⟨p + 1, false, by omega, by omega, rfl, hnext false (by simp [*]), by rw [hp']; rfl, rfl⟩
          · rcases Decidable.em (kd = 8) with h8 | h8
            · rcases Decidable.em (tn < 0) with h9 | h9
              · rcases Decidable.em (ta = q) with h7 | h7
                · cbv
                  (repeat ((first | with_reducible refine ln fun _ _ _ => ?_ | refine tt ?_ | refine ff ?_ | refine tt ?_ rfl | with_reducible refine wr fun _ _ => ?_ | with_reducible refine wu fun _ _ => ?_ | refine rp fun _ _ _ => ?_ | refine cp fun _ => ?_ | with_reducible refine bq ?_ | refine cl ?_ | refine sd ?_); cbv))
                  refine el ?_ (by omega) hzp
                  cbv
                  (repeat ((first | with_reducible refine ln fun _ _ _ => ?_ | refine tt ?_ | refine ff ?_ | refine tt ?_ rfl | with_reducible refine wr fun _ _ => ?_ | with_reducible refine wu fun _ _ => ?_ | refine rp fun _ _ _ => ?_ | refine cp fun _ => ?_ | with_reducible refine bq ?_ | refine cl ?_ | refine sd ?_); cbv))
                  repeat (refine el ?_ (by omega) hy; cbv; (repeat ((first | with_reducible refine ln fun _ _ _ => ?_ | refine tt ?_ | refine ff ?_ | refine tt ?_ rfl | with_reducible refine wr fun _ _ => ?_ | with_reducible refine wu fun _ _ => ?_ | refine rp fun _ _ _ => ?_ | refine cp fun _ => ?_ | with_reducible refine bq ?_ | refine cl ?_ | refine sd ?_); cbv)))
                  rename_i p' hp'
                  refine lets [0, 7, 8, 10, 11, 12, 13, 14] ?_
                  exact hK2 (i + 1 - (p + 1)).toNat _ _ (by omega) ⟨p + 1, true, by omega, by omega, rfl, hnext true (by simp [*]), by rw [hp']; rfl, rfl⟩
                · cbv
                  (repeat ((first | with_reducible refine ln fun _ _ _ => ?_ | refine tt ?_ | refine ff ?_ | refine tt ?_ rfl | with_reducible refine wr fun _ _ => ?_ | with_reducible refine wu fun _ _ => ?_ | refine rp fun _ _ _ => ?_ | refine cp fun _ => ?_ | with_reducible refine bq ?_ | refine cl ?_ | refine sd ?_); cbv))
                  refine el ?_ (by omega) hzp
                  cbv
                  (repeat ((first | with_reducible refine ln fun _ _ _ => ?_ | refine tt ?_ | refine ff ?_ | refine tt ?_ rfl | with_reducible refine wr fun _ _ => ?_ | with_reducible refine wu fun _ _ => ?_ | refine rp fun _ _ _ => ?_ | refine cp fun _ => ?_ | with_reducible refine bq ?_ | refine cl ?_ | refine sd ?_); cbv))
                  repeat (refine el ?_ (by omega) hy; cbv; (repeat ((first | with_reducible refine ln fun _ _ _ => ?_ | refine tt ?_ | refine ff ?_ | refine tt ?_ rfl | with_reducible refine wr fun _ _ => ?_ | with_reducible refine wu fun _ _ => ?_ | refine rp fun _ _ _ => ?_ | refine cp fun _ => ?_ | with_reducible refine bq ?_ | refine cl ?_ | refine sd ?_); cbv)))
                  rename_i p' hp'
                  refine lets [0, 7, 8, 10, 11, 12, 13, 14] ?_
                  exact hK2 (i + 1 - (p + 1)).toNat _ _ (by omega) ⟨p + 1, false, by omega, by omega, rfl, hnext false (by simp [*]), by rw [hp']; rfl, rfl⟩
              · cbv
                (repeat ((first | with_reducible refine ln fun _ _ _ => ?_ | refine tt ?_ | refine ff ?_ | refine tt ?_ rfl | with_reducible refine wr fun _ _ => ?_ | with_reducible refine wu fun _ _ => ?_ | refine rp fun _ _ _ => ?_ | refine cp fun _ => ?_ | with_reducible refine bq ?_ | refine cl ?_ | refine sd ?_); cbv))
                refine el ?_ (by omega) hzp
                cbv
                (repeat ((first | with_reducible refine ln fun _ _ _ => ?_ | refine tt ?_ | refine ff ?_ | refine tt ?_ rfl | with_reducible refine wr fun _ _ => ?_ | with_reducible refine wu fun _ _ => ?_ | refine rp fun _ _ _ => ?_ | refine cp fun _ => ?_ | with_reducible refine bq ?_ | refine cl ?_ | refine sd ?_); cbv))
                repeat (refine el ?_ (by omega) hy; cbv; (repeat ((first | with_reducible refine ln fun _ _ _ => ?_ | refine tt ?_ | refine ff ?_ | refine tt ?_ rfl | with_reducible refine wr fun _ _ => ?_ | with_reducible refine wu fun _ _ => ?_ | refine rp fun _ _ _ => ?_ | refine cp fun _ => ?_ | with_reducible refine bq ?_ | refine cl ?_ | refine sd ?_); cbv)))
                rename_i p' hp'
                refine lets [0, 7, 8, 10, 11, 12, 13, 14] ?_
                exact hK2 (i + 1 - (p + 1)).toNat _ _ (by omega) ⟨p + 1, false, by omega, by omega, rfl, hnext false (by simp [*]), by rw [hp']; rfl, rfl⟩
            · cbv
              (repeat ((first | with_reducible refine ln fun _ _ _ => ?_ | refine tt ?_ | refine ff ?_ | refine tt ?_ rfl | with_reducible refine wr fun _ _ => ?_ | with_reducible refine wu fun _ _ => ?_ | refine rp fun _ _ _ => ?_ | refine cp fun _ => ?_ | with_reducible refine bq ?_ | refine cl ?_ | refine sd ?_); cbv))
              refine el ?_ (by omega) hzp
              cbv
              (repeat ((first | with_reducible refine ln fun _ _ _ => ?_ | refine tt ?_ | refine ff ?_ | refine tt ?_ rfl | with_reducible refine wr fun _ _ => ?_ | with_reducible refine wu fun _ _ => ?_ | refine rp fun _ _ _ => ?_ | refine cp fun _ => ?_ | with_reducible refine bq ?_ | refine cl ?_ | refine sd ?_); cbv))
              repeat (refine el ?_ (by omega) hy; cbv; (repeat ((first | with_reducible refine ln fun _ _ _ => ?_ | refine tt ?_ | refine ff ?_ | refine tt ?_ rfl | with_reducible refine wr fun _ _ => ?_ | with_reducible refine wu fun _ _ => ?_ | refine rp fun _ _ _ => ?_ | refine cp fun _ => ?_ | with_reducible refine bq ?_ | refine cl ?_ | refine sd ?_); cbv)))
              rename_i p' hp'
              refine lets [0, 7, 8, 10, 11, 12, 13, 14] ?_
              exact hK2 (i + 1 - (p + 1)).toNat _ _ (by omega) ⟨p + 1, false, by omega, by omega, rfl, hnext false (by simp [*]), by rw [hp']; rfl, rfl⟩
      · cbv
        (repeat ((first | with_reducible refine ln fun _ _ _ => ?_ | refine tt ?_ | refine ff ?_ | refine tt ?_ rfl | with_reducible refine wr fun _ _ => ?_ | with_reducible refine wu fun _ _ => ?_ | refine rp fun _ _ _ => ?_ | refine cp fun _ => ?_ | with_reducible refine bq ?_ | refine cl ?_ | refine sd ?_); cbv))
        rename_i p' hp'
        refine lets [0, 7, 8, 10, 11, 12, 13, 14] ?_
        exact hK2 (i + 1 - (p + 1)).toNat _ _ (by omega) ⟨p + 1, true, by omega, by omega, rfl, hnext true (by simp [*]), by rw [hp']; rfl, rfl⟩
    · have hbq : b = true ↔ bs[q.toNat]? = some true := by
        rw [hb, hA.mem q q0 hlt]
        exact ⟨fun ⟨j, t, h1, h2, h3⟩ => ⟨j, t, h1, by omega, h3⟩, fun ⟨j, t, h1, h2, h3⟩ => ⟨j, t, h1, by omega, h3⟩⟩
      have hbl := hA.bl
      cases b
      · have hno : bs[q.toNat]? = some false := by
          cases e : bs[q.toNat]? with
          | none =>
            rw [List.getElem?_eq_none_iff] at e
            unfold cnt at *
            omega
          | some x =>
            cases x
            · rfl
            · exact absurd (hbq.2 e) (by simp)
        have hpn := picks_no q0 hno
        clear hb hbq hm hnx hlx hA kD kN kM kl kx hK2
        cbv
        (repeat ((first | with_reducible refine ln fun _ _ _ => ?_ | refine tt ?_ | refine ff ?_ | refine tt ?_ rfl | with_reducible refine wr fun _ _ => ?_ | with_reducible refine wu fun _ _ => ?_ | refine rp fun _ _ _ => ?_ | refine cp fun _ => ?_ | with_reducible refine bq ?_ | refine cl ?_ | refine sd ?_); cbv))
        rename_i q' hq'
        refine lets [0, 7, 8, 10, 11, 12] ?_
        exact hK (i + 1 - (q + 1)).toNat _ _ (by omega) ⟨q + 1, m, by omega, by omega, rfl, by rw [hpn]; exact hmq, by rw [hq']; rfl, rfl⟩
      · have hyes := hbq.1 rfl
        obtain ⟨hat, hs, hle⟩ := pick_at (n := c.length) q0 (by unfold cnt at *; omega) hyes
        rw [← hl, ← hmq] at hat
        rw [← hl] at hle
        rw [← hmq] at hs
        have m0 : 0 ≤ m := by rw [hmq]; exact cnt0 _
        have m1 : m ≤ q := by rw [hmq]; exact Int.le_trans (picks_cnt bs q.toNat) (Int.le_of_eq (Int.toNat_of_nonneg q0))
        obtain ⟨x, hx1, hx2⟩ := hlx m m0 (by omega)
        rw [hat] at hx1
        injection hx1 with hx1
        subst hx1
        obtain ⟨bq, hq1, hq2⟩ := hnx q q0 (by omega)
        rw [hA.nd q q0 hyes] at hq1
        injection hq1 with hq1
        subst hq1
        clear hb hbq hm hnx hlx hA kD kN kM kl kx hK2 hat
        cbv
        (repeat ((first | with_reducible refine ln fun _ _ _ => ?_ | refine tt ?_ | refine ff ?_ | refine tt ?_ rfl | with_reducible refine wr fun _ _ => ?_ | with_reducible refine wu fun _ _ => ?_ | refine rp fun _ _ _ => ?_ | refine cp fun _ => ?_ | with_reducible refine bq ?_ | refine cl ?_ | refine sd ?_); cbv))
        refine el ?_ (by omega) hx2
        cbv
        (repeat ((first | with_reducible refine ln fun _ _ _ => ?_ | refine tt ?_ | refine ff ?_ | refine tt ?_ rfl | with_reducible refine wr fun _ _ => ?_ | with_reducible refine wu fun _ _ => ?_ | refine rp fun _ _ _ => ?_ | refine cp fun _ => ?_ | with_reducible refine bq ?_ | refine cl ?_ | refine sd ?_); cbv))
        refine el ?_ (by omega) hq2
        cbv
        (repeat ((first | with_reducible refine ln fun _ _ _ => ?_ | refine tt ?_ | refine ff ?_ | refine tt ?_ rfl | with_reducible refine wr fun _ _ => ?_ | with_reducible refine wu fun _ _ => ?_ | refine rp fun _ _ _ => ?_ | refine cp fun _ => ?_ | with_reducible refine bq ?_ | refine cl ?_ | refine sd ?_); cbv))
        rename_i m' hm' q' hq'
        refine lets [0, 7, 8, 10, 11, 12] ?_
        exact hK (i + 1 - (q + 1)).toNat _ _ (by omega) ⟨q + 1, m', by omega, by omega, rfl, by omega, by rw [hq']; rfl, rfl⟩
  · have hqi : q = i + 1 := by omega
    have hml : m = cnt l := by rw [hmq, hqi, hA.all, hl]
    clear hm hnx hlx hA kD kN kM kl kx hK
    cbv
    (repeat ((first | with_reducible refine ln fun _ _ _ => ?_ | refine tt ?_ | refine ff ?_ | refine tt ?_ rfl | with_reducible refine wr fun _ _ => ?_ | with_reducible refine wu fun _ _ => ?_ | refine rp fun _ _ _ => ?_ | refine cp fun _ => ?_ | with_reducible refine bq ?_ | refine cl ?_ | refine sd ?_); cbv))
    exact hu.symm
end Go.Proofs.YtheciiemknmnoaaGreat.Rd
end
