/- Part 7 of the proof. -/
import Derived.Test.YtjkcmnedolfkjaaGreatProg
import Derived.Laws.Tables
import Derived.Orders
import Derived.Below
import Derived.Deep.Draws
import Derived.Deep.AppendLies
import Derived.Maps.AppendAt
import Derived.OwnWalk
import Derived.Laws.BytesArg
import Derived.Laws.MakeOwn
import Derived.Laws.OwnMore
import Derived.Deep.OwnRows
import Derived.Tactics
import Derived.Lib.ConvBytes
import Derived.Laws.Slices
import Derived.WalkKit
import Derived.KernelRfl
import Derived.RowKit3
import Derived.Deep.LoopGhost
import Derived.Deep.QuietTactic
import Derived.BigQuiet
import Derived.WideLaws
import Derived.Deep.DeepCutAuto
import Derived.Deep.CutBlock
import Derived.Deep.RegionHeld3
import Derived.Laws.Rows
import Derived.Lib.AppendStr
import Derived.ArgAppend
import Derived.Laws.IdiomCopy
import Derived.RowKit
import Derived.OrdersHeld
import Derived.Laws.BitsLemmas
import Derived.Laws.Cells
import Derived.Great.BuildSlice
import Derived.Deep.Slices
import Derived.Laws.AppendOwn
import Derived.Laws.LoneSync
import Derived.LoopN
import Derived.Laws.StructEq
import Derived.Laws.Bits64b
import Derived.Laws.BitsAllLaws
import Derived.Conc.MuLone
import Derived.RegionTactic
import Derived.RegionCalls
import Derived.ChangeAlike
import Derived.Test.YtjkcmnedolfkjaaGreatT6
set_option linter.unusedVariables false
set_option linter.unusedSimpArgs false
section
set_option linter.unusedVariables false
set_option linter.unusedSimpArgs false
set_option maxRecDepth 100000
set_option maxHeartbeats 4000000
namespace Go.Proofs.YtjkcmnedolfkjaaGreat.Rd
open Go Go.RowKit Go.Proofs.YtjkcmnedolfkjaaGreatW.PrintWords Go.Proofs.YtjkcmnedolfkjaaGreat.PL Go.Proofs.YtjkcmnedolfkjaaGreat.Num

theorem sw {α : Type} {x y : α} {K : α → Prop} (e : x = y) (h : K y) : ∀ z, z = x → K z := fun z hz => by rw [hz, e]; exact h
theorem wrE {e v : Int} {K : Int → Prop} (h : K v) (hv : e = v) (hp : -9223372036854775808 ≤ e ∧ e ≤ 9223372036854775807 := by omega) : ∀ r, r = IntKind.i64.wrap e → K r := fun r hr => by rw [hr, wi64 hp.1 hp.2, hv]; exact h
theorem lnE {α : Type} {xs : List α} {v : Int} {K : Int → Prop} (h : K v) (hv : cnt xs = v) : ∀ n, n = cnt xs → K n := fun n hn => by rw [hn, hv]; exact h
def mkX (l ds : Rows) (dn n cp : Int) (bad : Bool) (xs : Rows) : Heap := [none, none, none, some (.cells [.sl 5 n cp 7, .s 1 l, .sl 4 dn dn 1, ub bad]), some (.row 1 ds), some (.row 7 xs)]
theorem letsM {a : List U} {h : Heap} {k : List U → Heap → Prop} {l ds xs : Rows} {dn n cp : Int} {bad : Bool} (L : List Nat) (m d c : Nat) (hk : k ((keepT L a).map (renU (ixN 3 [m, d, c]))) (mkX l ds dn n cp bad xs)) (hh : [m, d, c].map (fun j => renO (ixN 3 [m, d, c]) (heapAt h j)) = [some (.cells [.sl 5 n cp 7, .s 1 l, .sl 4 dn dn 1, ub bad]), some (.row 1 ds), some (.row 7 xs)] := by rfl) (hc : okW 3 L [m, d, c] a h = true := by rfl) : weak 3 a h k := by
 refine letsW L [m, d, c] ?_ hc
 rw [hh]
 exact hk
theorem lean_lit {c : List Tm} {s : Int} {q : Nat} {t : Tm} (ht : c[q]? = some t) (h1 : t.k = 1) : ∀ N, (leanN c s N)[q]? = some false
 | 0 => by
  have := (List.getElem?_eq_some_iff.1 ht).1
  unfold leanN
  rw [List.getElem?_replicate, if_pos this]
 | N + 1 => by
  have ih := lean_lit (s := s) ht h1 N
  unfold leanN
  split
  ·rename_i t' ht'
   unfold leanS
   split
   ·exact ih
   ·rename_i hk
    rw [List.getElem?_set]
    split
    ·rename_i e
     subst e
     rw [ht] at ht'
     injection ht' with ht'
     rw [← ht'] at hk
     exact absurd h1 hk
    ·exact ih
  ·exact ih
theorem der_no {c : List Tm} {l nd : List Bool} {m : Nat} {q : Int} (h0 : 0 ≤ q) (h : ¬ (nd[q.toNat]? = some true ∧ l[q.toNat]? = some true)) : derN c l nd m (q + 1).toNat = derN c l nd m q.toNat := by
 rw [show (q + 1).toNat = q.toNat + 1 by omega, derN, if_neg h]
theorem der_yes {c : List Tm} {l nd : List Bool} {m : Nat} {q : Int} {cc : List Tm} {dd : List Int} {bd : Bool} {t : Tm} (h0 : 0 ≤ q) (h : derN c l nd m q.toNat = (cc, dd, bd)) (h1 : nd[q.toNat]? = some true) (h2 : l[q.toNat]? = some true) (ht : c[q.toNat]? = some t) : derN c l nd m (q + 1).toNat = ((termS l dd cc bd t).1, dd.set q.toNat (termS l dd cc bd t).2.1, (termS l dd cc bd t).2.2) := by
 rw [show (q + 1).toNat = q.toNat + 1 by omega, derN, if_pos ⟨h1, h2⟩, ht, h]
theorem share {P : Rows → Prop} {Q : Prop} (X : Rows) (h1 : (∀ dr, dr = X → P dr) → Q) (h2 : ∀ dr, dr = X → P dr) : Q := h1 h2
theorem small7 {x y q : Int} (h1 : x ≤ y + 5 * q) (h2 : y ≤ 1000) (h3 : q ≤ y) : ¬ 32000 < x + 1 ∧ ¬ 32000 < x := by omega
theorem derU_ok (x : List Tm) (i : Int) : U.tup [.s 7 (x.map tU), ui i, ui 0] = derU (x, i, 0) := by unfold derU cU; rw [if_pos rfl]
def diffOfR (us : List U) (u : U) : Prop := ∃ c i s, (∀ t ∈ c, LB t.q) ∧ cnt c ≤ 1000 ∧ us = [cU c, ui i, ui s] ∧ u = derU (derS c i s)
theorem diffOf_ok : SoundF Tryz.prog 11 diffOfR := soundG [(35, needsR), (15, leansR)] [(36, copiedR), (37, mkR 99000 termG), (38, mkR 100000 litG)] (orc_cons needs_ok (orc_cons leans_ok orc_nil)) (entH_cons copied_in (entH_cons term_inH (entH_cons lit_in entH_nil))) Tryz.func11 (by kernel_rfl) (by kernel_rfl) fun us u hR => by
 obtain ⟨c, i, s, hq, hn, rfl, hu⟩ := hR
 obtain ⟨r, hr⟩ : ∃ r, (cnt c).toNat + 10 < r := ⟨_, Nat.lt_succ_self _⟩
 refine ⟨r, fun C E hC hE => ?_⟩
 have k1 := hC 35 needsR (by simp) _ _ ⟨c, i, hq, by omega, rfl, rfl⟩
 have k2 := hC 15 leansR (by simp) _ _ ⟨c, i, s, hq, by omega, rfl, rfl⟩
 have hcop := hE 36 copiedR (by simp)
 have hterm := hE 37 (mkR 99000 termG) (by simp)
 have hlit := hE 38 (mkR 100000 litG) (by simp)
 have hcn := fun i (h0 : 0 ≤ i) (h1 : i < cnt c) => nth_map (c := c) tU h0 h1
 have hc := cnt_map c tU
 have hc0 := cnt0 c
 have hnl := needs_len c i.toNat
 have hll := leanN_len c s c.length
 unfold derS at hu
 unfold needsU at k1
 unfold leansU at k2
 clear hC hE
 cases hmc : mayC c i
 ·rw [hmc, if_neg (by simp)] at k1
  rw [hmc, if_neg (by simp)] at hu
  unfold cU at *
  generalize c.map tU = xs at *
  clear hcop hterm hlit k2
  cbv
  (repeat ((refine cl ?_); cbv))
  exact hu.symm
 rw [hmc, if_pos rfl] at k1 k2
 rw [hmc] at hu
 have hm3 : 0 ≤ i ∧ i < cnt c ∧ goodC c = true := by
  unfold mayC at hmc
  simp only [Bool.and_eq_true, decide_eq_true_eq] at hmc
  exact ⟨hmc.1.1, hmc.1.2, hmc.2⟩
 obtain ⟨hi0, hi1, hg⟩ := hm3
 have hok : ∀ (q : Int) t, 0 ≤ q → c[q.toNat]? = some t → termOk t q = true := fun q t h0 ht => by
  have := goodC_iff.1 hg q.toNat t ht
  rwa [show (q.toNat : Int) = q by omega] at this
 obtain ⟨nd, hnd⟩ : ∃ nd, nd = needs c i.toNat := ⟨_, rfl⟩
 obtain ⟨l, hl⟩ : ∃ l, l = leanN c s c.length := ⟨_, rfl⟩
 rw [← hnd] at k1 hnl
 rw [← hl] at k2 hll hu
 obtain ⟨y, nds', hns⟩ : ∃ y ys, uB nd = y :: ys := by
  cases h : uB nd with
  | nil =>
   have := uB_len nd
   rw [h, hnl] at this
   have h0 : cnt ([] : Rows) = 0 := rfl
   omega
  | cons y ys => exact ⟨y, ys, rfl⟩
 rcases Decidable.em (0 ≤ s) with hs | hs
 case inr =>
  rw [if_neg (fun h => hs h.2)] at hu
  rw [hns] at k1
  clear hcop hterm hlit k2
  unfold cU at *
  generalize c.map tU = xs at *
  cbv
  (repeat ((first | refine tt ?_ | refine cl ?_); cbv))
  exact hu.symm
 rw [if_pos ⟨rfl, hs⟩] at hu
 have hndx := fun j (h0 : 0 ≤ j) (h1 : j < cnt nd) => uB_nth (s := nd) h0 h1
 have hlx := fun j (h0 : 0 ≤ j) (h1 : j < cnt l) => uB_nth (s := l) h0 h1
 obtain ⟨nds, hnds⟩ : ∃ nds, nds = uB nd := ⟨_, rfl⟩
 obtain ⟨ls, hls⟩ : ∃ ls, ls = uB l := ⟨_, rfl⟩
 rw [← hls] at k2 hlx
 rw [← hnds] at hndx
 rw [hns] at k1
 rw [hns] at hnds
 unfold cU at *
 -- the terms up to the root
 obtain ⟨ct, hct⟩ : ∃ ct, ct = c.take (i.toNat + 1) := ⟨_, rfl⟩
 have hctn : cnt ct = i + 1 := by
  rw [hct]
  unfold cnt at *
  rw [List.length_take]
  omega
 have hcop := fun h k (hk : k (renU (back [] h.length) (.sl 0 (cnt ct) (cnt ct) 7)) (backH [] h [some (.row 7 (ct.map tU))])) (hh : seeB [] [.s 7 (ct.map tU)] h = true) => hcop [.s 7 (ct.map tU)] h k (see [] ⟨ct, fun t ht => by
  have ht := List.mem_of_mem_take (hct ▸ ht)
  refine ⟨hq t ht, fun h1 => ?_⟩
  obtain ⟨p, hp, rfl⟩ := List.mem_iff_getElem.1 ht
  have := goodC_iff.1 hg p _ (List.getElem?_eq_getElem hp)
  unfold termOk at this
  rw [if_pos h1, Bool.and_eq_true] at this
  exact this.2, by omega, rfl, rfl, hk⟩ hh)
 have hctx := fun q (h0 : 0 ≤ q) (h1 : q < cnt ct) => nth_map (c := ct) tU h0 h1
 have hctc : ∀ (q : Int), 0 ≤ q → q < i + 1 → ct[q.toNat]? = c[q.toNat]? := fun q h0 hq => by rw [hct, List.getElem?_take, if_pos (by omega)]
 have htk : ∀ e : Int, e = i + 1 → (c.map tU).take e.toNat = ct.map tU := fun e he => by rw [he, hct, List.map_take, show (i + 1).toNat = i.toNat + 1 by omega]
 have hctm := cnt_map ct tU
 have hrow0 : Row7 ct (cnt ct) (cnt ct) (ct.map tU) := ⟨rfl, by rw [List.take_of_length_le (by rw [← hctm]; unfold cnt; omega)], hctm.symm, Int.le_refl _⟩
 have hder0 : derN c l nd (i.toNat + 1) 0 = (ct, List.replicate (i.toNat + 1) 0, false) := by rw [hct]; rfl
 generalize c.map tU = xs at *
 generalize hcts : ct.map tU = cts at *
 generalize hnn : cnt ct = n0 at *
 clear hct hg
 cbv
 (repeat ((first | refine ff ?_ | refine wr fun _ _ => ?_ | refine cl ?_); cbv))
 rename_i e1 he1 e2 he2
 have h1 : n0 = e1 := by omega
 subst h1
 have h2 : n0 = e2 := by omega
 subst h2
 clear he1 he2
 apply share (uN (List.replicate (i.toNat + 1) 0))
 ·intro key
  repeat' (first | refine And.intro ?_ ?_ | (refine hcop _ _ ?_ rfl; cbv) | (refine cl ?_; cbv) | (refine sd ?_ (by omega); refine sw (htk _ (by omega)) ?_; cbv) | (refine sd ?_ (by omega); refine rp fun dr hdr hdc => ?_; cbv) | (refine wrE (v := n0) ?_ (by omega); cbv) | (refine lnE (v := n0) ?_ (by omega); cbv))
  all_goals
   (first | refine letsM [1, 9, 10, 40, 41, 42] 2 1 0 ?_ | refine letsM [1, 9, 10, 40, 41, 42] 2 0 1 ?_)
   refine key dr ?_
   rw [hdr]
   unfold uN
   rw [List.map_replicate]
   congr 1
   omega
 ·intro dr e0
  rw [← hnds]
  clear hcop
  cbv
  refine loop_inv (fun j a h => ∃ (q : Int) (cc : List Tm) (dd : List Int) (bd : Bool) (n cp : Int) (rw ds : Rows), 0 ≤ q ∧ q ≤ n0 ∧ j = (n0 - q).toNat ∧ derN c l nd (i.toNat + 1) q.toNat = (cc, dd, bd) ∧ Row7 cc n cp rw ∧ ds = uN dd ∧ a = [.lost, ui i, .lost, .lost, .lost, .lost, .lost, .lost, .lost, .s 1 nds, .ptr 3 0, .lost, .lost, .lost, .lost, .lost, .lost, .lost, .lost, .lost, .lost, .lost, .lost, .lost, .lost, .lost, .lost, .lost, .lost, .lost, .lost, .lost, .lost, .lost, .lost, .lost, .lost, .lost, .lost, .lost, .s 7 cts, ui n0, ui q, .lost, .lost, .lost, .lost, .lost, .lost, .lost, .lost, .lost, .lost, .lost, .lost, .lost, .lost, .lost, .lost, .lost, .lost, .lost, .lost, .lost, .lost, .lost, .lost, .lost, .lost, .lost, .lost, .lost, .lost, .lost, .lost, .lost, .lost, .lost, .lost, .lost, .lost, .lost, .lost, .lost, .lost, .lost, .lost, .lost, .lost, .lost, .lost, .lost, .lost, .lost, .lost, .lost, .lost, .lost, .lost, .lost, .lost, .lost, .lost, .lost] ∧ h = mkX ls ds n0 n cp bd rw) ?_ r n0.toNat _ _ (by omega) ⟨0, ct, _, false, n0, n0, cts, dr, by omega, by omega, by omega, hder0, hrow0, e0, rfl, rfl⟩
  clear e0 hder0 hrow0
  rintro j a h K ⟨q, cc, dd, bd, n, cp, rw, ds, q0, q1, hj, hder, hrow, hds, rfl, rfl⟩ hK
  have hdl : cnt dd = n0 := by
   have := der_len c l nd (i.toNat + 1) q.toNat
   rw [hder] at this
   dsimp only at this
   omega
  have hdc : cnt cc ≤ cnt c + 5 * q := by
   have := der_cnt c l nd (i.toNat + 1) q.toNat
   rw [hder] at this
   dsimp only at this
   omega
  have hen := hrow.en
  have hqc : q ≤ cnt c := by omega
  rcases Decidable.em (q < n0) with hlt | hlt
  ·obtain ⟨bN, hbN, hzN⟩ := hndx q q0 (by omega)
   obtain ⟨bL, hbL, hzL⟩ := hlx q q0 (by omega)
   obtain ⟨t, ht, hy⟩ := hctx q q0 (by omega)
   rw [hctc q q0 (by omega)] at ht
   have hno := der_no (c := c) (l := l) (nd := nd) (m := i.toNat + 1) q0
   have hK' := fun cc dd bd n cp rw ds (h1 : derN c l nd (i.toNat + 1) (q + 1).toNat = (cc, dd, bd)) (h2 : Row7 cc n cp rw) (h3 : ds = uN dd) => hK (n0 - (q + 1)).toNat _ _ (by omega) ⟨q + 1, cc, dd, bd, n, cp, rw, ds, by omega, by omega, rfl, h1, h2, h3, rfl, rfl⟩
   have hk1 : bL = true → t.k ≠ 1 := fun e h1 => by
    have := lean_lit (s := s) ht h1 c.length
    rw [← hl, hbL, e] at this
    injection this with this
    cases this
   have htm := term_cases (hok q t q0 ht)
   clear hK hndx hlx hctx hctc hlit hu
   cases bN
   ·have hno := hno (fun h => by rw [hbN] at h; injection h.1 with h; cases h)
    have hK' := hK' cc dd bd n cp rw ds (hno.trans hder) hrow hds
    obtain ⟨kd, ta, tb, m, ts, tl, td⟩ := t
    clear hterm
    cbv
    (repeat ((first | refine tt ?_ | refine wr fun _ _ => ?_ | refine el ?_); cbv))
    rename_i q' hq'
    refine letsM [1, 9, 10, 40, 41, 42] 3 4 5 ?_
    rw [hq']
    exact hK'
   cases bL
   ·have hno := hno (fun h => by rw [hbL] at h; injection h.2 with h; cases h)
    have hK' := hK' cc dd bd n cp rw ds (hno.trans hder) hrow hds
    obtain ⟨kd, ta, tb, m, ts, tl, td⟩ := t
    clear hterm
    cbv
    (repeat ((first | refine tt ?_ | refine wr fun _ _ => ?_ | refine el ?_); cbv))
    rename_i q' hq'
    refine letsM [1, 9, 10, 40, 41, 42] 3 4 5 ?_
    rw [hq']
    exact hK'
   ·have hyes := der_yes q0 hder hbN hbL ht
    obtain ⟨r7, er⟩ : ∃ r : MS, r = termS l dd cc bd t := ⟨_, rfl⟩
    rw [← er] at hyes
    obtain ⟨x0, hx0, hzD⟩ := uN_nth (d := dd) (k := q) q0 (by omega)
    rw [← hds] at hzD
    have hcd : t.k = 2 ∨ (t.k = 7 ∧ inD l dd t.a) ∨ (t.k = 8 ∧ inD l dd t.a ∧ -1000000 ≤ t.n ∧ t.n ≤ 1000000) ∨ ((t.k = 3 ∨ t.k = 4 ∨ t.k = 5 ∨ t.k = 6) ∧ inD l dd t.a ∧ inD l dd t.b) := by
     rcases htm with h | ⟨h, h2⟩ | ⟨h, h2, h3⟩ | ⟨h, h2⟩ | ⟨h, h2, h3⟩
     ·exact absurd h (hk1 rfl)
     ·exact .inl h
     ·exact .inr (.inr (.inr ⟨h, ⟨by omega, by omega, by omega⟩, ⟨by omega, by omega, by omega⟩⟩))
     ·exact .inr (.inl ⟨h, ⟨by omega, by omega, by omega⟩⟩)
     ·exact .inr (.inr (.inl ⟨h, ⟨by omega, by omega, by omega⟩, by omega, by omega⟩))
    have hset : ∀ y ys, y = r7.2.1 → ys = ds.set q.toNat [ui y] → ys = uN (dd.set q.toNat r7.2.1) := fun y ys e1 e2 => by
     rw [e2, hds, e1]
     unfold uN
     rw [List.map_set]
    obtain ⟨kd, ta, tb, m, ts, tl, td⟩ := t
    have hcall := fun h k (hk : ∀ i n' cp' b' ys, i = r7.2.1 → b' = r7.2.2 → Row7 r7.1 n' cp' ys → k (renU (back [3, 4, 5] h.length) (ui i)) (backH [3, 4, 5] h (mkE ls ds n0 n' cp' b' ys))) (hh : [3, 4, 5].map (fun j => renO (ix [3, 4, 5]) (heapAt h j)) = mkH ls ds n0 n cp bd rw) (hb : seeB [3, 4, 5] [.ptr 3 0, .agg (tU ⟨kd, ta, tb, m, (ts, tl, td)⟩)] h = true) => hterm [.ptr 3 0, .agg (tU ⟨kd, ta, tb, m, (ts, tl, td)⟩)] h k (see [3, 4, 5] ⟨cc, l, dd, ls, ds, n0, n, cp, bd, rw, r7, ⟨hls, hds, hdl.symm, by omega, hrow⟩, ⟨_, rfl, hcd, er⟩, hh, hk⟩ hb)
    clear hterm htm hcd er hno hk1
    cbv
    (repeat ((first | refine tt ?_ | refine el ?_); cbv))
    refine ⟨?_, ?_⟩ <;> (
     refine hcall _ _ (fun i2 n2 cp2 b2 ys2 g1 g2 g3 => ?_) rfl rfl
     cbv
     (repeat ((first | refine wr fun _ _ => ?_ | refine sd ?_ | refine el ?_ | intro _ _); cbv))
     rename_i zs e q' hq'
     have e2 := hset _ zs g1 e
     have hK' := hK' r7.1 (dd.set q.toNat r7.2.1) b2 n2 cp2 ys2 zs (by rw [g2]; exact hyes) g3 e2
     clear e hcall
     refine letsM [1, 9, 10, 40, 41, 42] 3 4 7 ?_
     rw [hq']
     exact hK')
  ·have hqi : q.toNat = i.toNat + 1 := by omega
   have hD : derAll c i s = (cc, dd, bd) := by
    unfold derAll
    rw [← hl, ← hnd]
    rw [hqi] at hder
    exact hder
   rw [hD] at hu
   dsimp only at hu
   obtain ⟨bR, hbR, hzR⟩ := hlx i hi0 (by omega)
   obtain ⟨xR, hxR, hzX⟩ := uN_nth (d := dd) hi0 (by omega)
   rw [← hds] at hzX
   rw [bAt_of hbR, dAt_of hxR] at hu
   have hle := hrow.le
   have hec := hrow.ec
   have htk2 := hrow.tk
   clear hK hndx hlx hctx hctc hterm hok hder hD hbR
   cases bR
   ·rw [if_neg (by simp)] at hu
    have hcall := fun h k (hk : ∀ i n' cp' b' ys, i = cnt cc → b' = bd → Row7 (cc ++ [litT 0]) n' cp' ys → k (renU (back [3, 4, 5] h.length) (ui i)) (backH [3, 4, 5] h (mkE ls ds n0 n' cp' b' ys))) (hh : [3, 4, 5].map (fun j => renO (ix [3, 4, 5]) (heapAt h j)) = mkH ls ds n0 n cp bd rw) (hb : seeB [3, 4, 5] [.ptr 3 0, ui 0] h = true) => hlit [.ptr 3 0, ui 0] h k (see [3, 4, 5] ⟨cc, l, dd, ls, ds, n0, n, cp, bd, rw, (cc ++ [litT 0], cnt cc, bd), ⟨hls, hds, hdl.symm, by omega, hrow⟩, ⟨0, by omega, by omega, rfl, rfl⟩, hh, hk⟩ hb)
    clear hlit
    cases bd
    ·cbv
     (repeat ((first | refine ff ?_ | with_reducible refine bq ?_ | refine sd ?_ | refine el ?_); cbv))
     refine hcall _ _ (fun i2 n2 cp2 b2 ys2 g1 g2 g3 => ?_) rfl rfl
     subst g2
     have m2 := g3.en
     rw [cnt_app] at m2
     have m3 := g3.le
     have m4 := g3.ec
     have m5 := g3.tk
     clear hcall g3
     rw [if_neg (fun h => h.elim (fun h => by cases h) (small7 hdc hn hqc).1), ← g1] at hu
     cbv
     (repeat ((first | refine ff ?_ | refine sd ?_ | intro _ _); cbv))
     rename_i zs e
     rw [hu, e, m5]
     exact derU_ok _ i2
    ·rw [if_pos (.inl rfl)] at hu
     cbv
     (repeat ((first | refine ff ?_ | with_reducible refine bq ?_ | refine sd ?_ | refine el ?_); cbv))
     refine hcall _ _ (fun i2 n2 cp2 b2 ys2 g1 g2 g3 => ?_) rfl rfl
     subst g2
     cbv
     (repeat ((intro _ _); cbv))
     exact hu.symm
   ·rw [if_pos rfl] at hu
    clear hlit
    cases bd
    ·rw [if_neg (fun h => h.elim (fun h => by cases h) (small7 hdc hn hqc).2)] at hu
     cbv
     (repeat ((first | refine ff ?_ | with_reducible refine bq ?_ | refine sd ?_ | refine el ?_ | intro _ _); cbv))
     rename_i zs e
     rw [hu, e, htk2]
     exact derU_ok cc xR
    ·rw [if_pos (.inl rfl)] at hu
     cbv
     (repeat ((first | refine ff ?_ | with_reducible refine bq ?_ | refine sd ?_ | refine el ?_); cbv))
     exact hu.symm
theorem keepNR {a b : List Int} (h : cnt a ≤ 1000000) : steelyardkeep_Nat.R [.l a, .l b] (ub (decide (a = b))) := by obtain ⟨k, hk⟩ := (same_tells a b (by unfold cnt at h; omega)).rounds; exact ⟨k, _, _, _, rfl, hk, rfl⟩
def keepIR (us : List U) (u : U) : Prop := ∃ s1 l1 s2 l2, cnt l1 ≤ 1000000 ∧ us = [.agg [ub s1, .l l1], .agg [ub s2, .l l2]] ∧ u = ub (decide ((s1, l1) = (s2, l2)))
theorem keepI_ok : SoundF Tryz.prog 54 keepIR := sound [(55, steelyardkeep_Nat.R)] (orc_cons steelyardkeep_Nat.sound orc_nil) Tryz.func54 (by kernel_rfl) (by kernel_rfl) fun us u hR => ⟨0, fun C E hC => by
 obtain ⟨s1, l1, s2, l2, h, rfl, hu⟩ := hR
 have k := hC 55 steelyardkeep_Nat.R (by simp) _ _ (keepNR (b := l2) h)
 by_cases h1 : s1 = s2
 ·rw [show decide ((s1, l1) = (s2, l2)) = decide (l1 = l2) by rw [decide_eq_decide]; simp [h1]] at hu
  generalize decide (l1 = l2) = t at *
  cases s1 <;> cases s2 <;> first | exact absurd h1 (by decide) | (cbv; (repeat ((first | with_reducible refine bq ?_ | refine cl ?_); cbv)); exact hu.symm)
 ·rw [decide_eq_false (show ¬ (s1, l1) = (s2, l2) by simp [h1])] at hu
  cases s1 <;> cases s2 <;> first | exact absurd rfl h1 | (cbv; (repeat ((with_reducible refine bq ?_); cbv)); exact hu.symm)⟩
def keepR (us : List U) (u : U) : Prop := ∃ a b : R3, cnt a.2.1 ≤ 1000000 ∧ cnt a.2.2 ≤ 1000000 ∧ us = [uR a, uR b] ∧ u = ub (decide (a = b))
theorem keep_ok : SoundF Tryz.prog 24 keepR := sound [(54, keepIR), (55, steelyardkeep_Nat.R)] (orc_cons keepI_ok (orc_cons steelyardkeep_Nat.sound orc_nil)) Tryz.func24 (by kernel_rfl) (by kernel_rfl) fun us u hR => ⟨0, fun C E hC => by
 obtain ⟨⟨s1, l1, b1⟩, ⟨s2, l2, b2⟩, h, h', rfl, hu⟩ := hR
 have k1 := hC 54 keepIR (by simp) _ _ ⟨s1, l1, s2, l2, h, rfl, rfl⟩
 have k2 := hC 55 steelyardkeep_Nat.R (by simp) _ _ (keepNR (b := b2) h')
 have e : decide ((s1, l1, b1) = (s2, l2, b2)) = (decide ((s1, l1) = (s2, l2)) && decide (b1 = b2)) := by rw [Bool.eq_iff_iff]; simp [and_assoc]
 rw [e] at hu
 clear e h h'
 generalize decide ((s1, l1) = (s2, l2)) = t1 at *
 generalize decide (b1 = b2) = t2 at *
 cases t1 <;> cases t2 <;> cbv <;> (repeat ((refine cl ?_); cbv)) <;> exact hu.symm⟩
def quotC : List Tm := [⟨2, 0, 0, 0, none3⟩, ⟨2, 0, 0, 1, none3⟩, ⟨6, 0, 1, 0, none3⟩, ⟨1, 0, 0, 0, ratOf 1⟩, ⟨4, 2, 3, 0, none3⟩]
def quotR (us : List U) (u : U) : Prop := us = [] ∧ u = cU quotC
theorem by_q {C : Orc} (h : Told C 26 byR) (a b : Int) (q : Rat) (h0 : -9223372036854775808 ≤ a ∧ a ≤ 9223372036854775807 ∧ 0 < b ∧ b ≤ 9223372036854775807) (hq : (a : Rat) / (b : Rat) = q) (hf : fits q = true) : ∃ s l d, C 26 [ui a, ui b] (.agg [ub s, .l l, .l d]) ∧ (s, l, d) = ratOf q := by
 subst hq
 exact tR (h _ _ ⟨a, b, h0.1, h0.2.1, h0.2.2.1, h0.2.2.2, hf, rfl, rfl⟩)
theorem quot_ok : SoundF Tryz.prog 33 quotR := sound [(26, byR)] (orc_cons by_ok orc_nil) Tryz.func33 (by kernel_rfl) (by kernel_rfl) fun us u hR => ⟨0, fun C E hC => by
 obtain ⟨rfl, hu⟩ := hR
 obtain ⟨s, l, d, k1, e⟩ := by_q (hC 26 byR (by simp)) 1 1 1 (by decide) (by decide +kernel) (by decide +kernel)
 have hu : u = .s 7 [[ui 2, ui 0, ui 0, ui 0, ub false, .l [], .l []], [ui 2, ui 0, ui 0, ui 1, ub false, .l [], .l []], [ui 6, ui 0, ui 1, ui 0, ub false, .l [], .l []], [ui 1, ui 0, ui 0, ui 0, ub s, .l l, .l d], [ui 4, ui 2, ui 3, ui 0, ub false, .l [], .l []]] := by
  rw [hu]
  unfold cU quotC
  rw [← e]
  rfl
 clear e
 cbv; (repeat ((refine cl ?_); cbv)); exact hu.symm⟩
def ofR' (us : List U) (u : U) : Prop := ∃ c i xs x, (∀ t ∈ c, LB t.q) ∧ cnt c ≤ 1000000 ∧ (∀ a ∈ xs, LB a) ∧ cnt xs ≤ 1000000 ∧ nilEq x (qsU xs) ∧ us = [cU c, ui i, x] ∧ u = uR4 (ofS c i xs)
theorem of_ok' : SoundF Tryz.prog 22 ofR' := relax of_ok fun us u ⟨c, i, xs, x, h1, h2, h3, h4, h5, h6, h7⟩ => ⟨_, u, ⟨c, i, xs, h1, h2, h3, h4, rfl, h7⟩, by rw [h6]; exact ⟨.inl rfl, .inl rfl, h5, trivial⟩, .inl rfl⟩
theorem LB_q {q : Rat} (h : fits q = true) : LB (ratOf q) := (LR_ratOf h).wide
theorem quot_LB : ∀ t ∈ quotC, LB t.q := fun t h => by
 unfold quotC at h
 simp only [List.mem_cons, List.not_mem_nil, or_false] at h
 rcases h with rfl | rfl | rfl | rfl | rfl <;> first | exact LB_none | exact LB_q fits_one
theorem lean_stay {c : List Tm} {s : Int} {x : Nat} : ∀ {N M : Nat}, x < N → N ≤ M → (leanN c s M)[x]? = (leanN c s N)[x]?
 | N, 0, h1, h2 => absurd h2 (by omega)
 | N, M + 1, h1, h2 => by
  by_cases e : N = M + 1
  ·rw [e]
  ·rw [← lean_stay (M := M) h1 (by omega)]
   conv => lhs; unfold leanN
   split
   ·unfold leanS
    split
    ·rfl
    ·rw [List.getElem?_set_ne (by omega)]
   ·rfl
theorem lean_self {c : List Tm} {s : Int} {q : Nat} {t : Tm} (ht : c[q]? = some t) (h1 : t.k ≠ 1) : (leanN c s (q + 1))[q]? = some (lean1 (leanN c s q) s t) := by
 have hlt := (List.getElem?_eq_some_iff.1 ht).1
 have hl := cnt_eq (leanN_len c s q)
 rw [leanN, ht]
 show (leanS _ _ _ _)[q]? = _
 unfold leanS
 rw [if_neg h1, List.getElem?_set_self (by omega)]
theorem lean_kids {c : List Tm} {s : Int} {q : Nat} {t : Tm} (ht : c[q]? = some t) (hok : termOk t q = true) (hl : (leanN c s c.length)[q]? = some true) :
  t.k = 2 ∨ ((t.k = 7 ∨ (t.k = 8 ∧ t.n ≠ 0)) ∧ bAt (leanN c s c.length) t.a = true) ∨ ((t.k = 3 ∨ t.k = 4 ∨ t.k = 5 ∨ t.k = 6) ∧ (bAt (leanN c s c.length) t.a = true ∨ bAt (leanN c s c.length) t.b = true)) := by
 have hlt := (List.getElem?_eq_some_iff.1 ht).1
 have h1 : t.k ≠ 1 := fun h => by
  rw [lean_lit ht h c.length] at hl
  injection hl with hl
  cases hl
 rw [lean_stay (N := q + 1) (by omega) (by omega), lean_self ht h1] at hl
 injection hl with hl
 have hst : ∀ x : Int, 0 ≤ x → x < q → bAt (leanN c s q) x = bAt (leanN c s c.length) x := fun x h0 h2 => by
  unfold bAt
  rw [lean_stay (N := q) (M := c.length) (by omega) (by omega)]
 unfold lean1 at hl
 rcases term_cases hok with h | ⟨h, h2⟩ | ⟨h, h2, h3⟩ | ⟨h, h2⟩ | ⟨h, h2, h3⟩
 ·exact absurd h h1
 ·exact .inl h
 ·rw [if_neg (by omega), if_neg (by omega), if_neg (by omega), Bool.or_eq_true, hst _ h2.1 h2.2, hst _ h3.1 h3.2] at hl
  exact .inr (.inr ⟨h, hl⟩)
 ·rw [if_neg (by omega), if_pos h, hst _ h2.1 h2.2] at hl
  exact .inr (.inl ⟨.inl h, hl⟩)
 ·rw [if_neg (by omega), if_neg (by omega), if_pos h, Bool.and_eq_true, hst _ h2.1 h2.2] at hl
  refine .inr (.inl ⟨.inr ⟨h, fun e => ?_⟩, hl.2⟩)
  rw [e] at hl
  simp at hl
theorem fits_int {v : Int} (h : -128 ≤ v ∧ v ≤ 128) : fits (v : Rat) = true := by
 have key : ∀ n : Nat, n ≤ 256 → fits (((n : Int) - 128 : Int) : Rat) = true := by decide +kernel
 have := key (v + 128).toNat (by omega)
 rwa [show (((v + 128).toNat : Int) - 128) = v by omega] at this
structure Rule (m : Int) (c : List Tm) (r : MS) : Prop where
 good : goodC r.1 = true
 grows : cnt c ≤ cnt r.1
 lo : m ≤ r.2.1
 hi : r.2.1 < cnt r.1
theorem Rule.none {m : Int} {c : List Tm} {x : Int} {b : Bool} (hg : goodC c = true) (h : m ≤ x ∧ x < cnt c) : Rule m c (c, x, b) := ⟨hg, Int.le_refl _, h.1, h.2⟩
theorem term_bad (l : List Bool) (d : List Int) (c : List Tm) (t : Tm) : (termS l d c true t).2.2 = true := by
 unfold termS productS quotientS raisedS sumS
 repeat' split
 all_goals rfl
set_option maxHeartbeats 8000000
theorem der_bad {c : List Tm} {l nd : List Bool} {m q : Nat} (h : (derN c l nd m q).2.2 = true) : ∀ k, (derN c l nd m (q + k)).2.2 = true
 | 0 => h
 | k + 1 => by
  have ih := der_bad h k
  show (derN c l nd m (q + k + 1)).2.2 = true
  unfold derN
  rw [ih]
  split
  ·split
   ·exact term_bad _ _ _ _
   ·exact ih
  ·exact ih
theorem Row7.new {c : List Tm} {n cp : Int} {zs rest : Rows} (hn : n = cnt c) (hz : zs = c.map tU ++ rest) (hc : cp = cnt zs) : Row7 c n cp zs := by
 have hl : (c.map tU).length = n.toNat := by rw [List.length_map, hn]; rfl
 refine ⟨hn, ?_, hc, ?_⟩
 ·rw [hz, List.take_append, hl, Nat.sub_self, List.take_of_length_le (by omega), List.take_zero, List.append_nil]
 ·rw [hc, hz, hn]
  unfold cnt
  rw [List.length_append, List.length_map]
  omega
def mkY (ds : Rows) (n cp : Int) (bad : Bool) (xs : Rows) : Heap := [none, none, none, none, none, some (.cells [nilU, ui 0, ui 0]), some (.cells [.sl 8 n cp 7, ub bad]), some (.row 1 ds), some (.row 7 xs)]
theorem letsY {a : List U} {h : Heap} {k : List U → Heap → Prop} {ds xs : Rows} {n cp : Int} {bad : Bool} (L : List Nat) (e m d c : Nat) (hk : k ((keepT L a).map (renU (ixN 5 [e, m, d, c]))) (mkY ds n cp bad xs)) (hh : [e, m, d, c].map (fun j => renO (ixN 5 [e, m, d, c]) (heapAt h j)) = [some (.cells [nilU, ui 0, ui 0]), some (.cells [.sl 8 n cp 7, ub bad]), some (.row 1 ds), some (.row 7 xs)] := by rfl) (hc : okW 5 L [e, m, d, c] a h = true := by rfl) : weak 5 a h k := by
 refine letsW L [e, m, d, c] ?_ hc
 rw [hh]
 exact hk
def gotU (r : List Tm × Int × Int) : U := .agg [if r.2.2 = 0 then cU r.1 else nilU, ui r.2.1, ui r.2.2]
theorem gotU_ok (x : List Tm) (i : Int) : U.agg [.s 7 (x.map tU), ui i, ui 0] = gotU (x, i, 0) := by unfold gotU cU; rw [if_pos rfl]
theorem set_ne {ds ys : Rows} {q t : Int} {z w : List U} (h : ys = ds.set q.toNat z) (hq : t < q) (h0 : 0 ≤ t) (hw : ds[t.toNat]? = some w) : ys[t.toNat]? = some w := by rw [h, List.getElem?_set_ne (by omega)]; exact hw
theorem set_self {ds ys : Rows} {q : Int} {z w : List U} (h : ys = ds.set q.toNat z) (hw : ds[q.toNat]? = some w) : ys[q.toNat]? = some z := by rw [h, List.getElem?_set_self (List.getElem?_eq_some_iff.1 hw).1]
def of21R (us : List U) (u : U) : Prop := ∃ c i s, (∀ t ∈ c, LB t.q) ∧ cnt c ≤ 1000 ∧ us = [cU c, ui i, ui s] ∧ u = gotU (derS c i s)
theorem of21_ok : SoundF Tryz.prog 12 of21R := soundG [(16, leansR), (39, needsR), (40, whole7R)] [(41, fkR 30000 putF), (42, fkR 30000 twoF)] (orc_cons leans21_ok (orc_cons needs20_ok (orc_cons whole7_ok orc_nil))) (entH_cons put_fk (entH_cons two_fk entH_nil)) Tryz.func12 (by kernel_rfl) (by kernel_rfl) fun us u hR => by
 obtain ⟨c, i, s, hq, hn, rfl, hu⟩ := hR
 obtain ⟨r, hr⟩ : ∃ r, (cnt c).toNat + 10 < r := ⟨_, Nat.lt_succ_self _⟩
 refine ⟨r, fun C E hC hE => ?_⟩
 have k1 := hC 39 needsR (by simp) _ _ ⟨c, i, hq, by omega, rfl, rfl⟩
 have k2 := hC 16 leansR (by simp) _ _ ⟨c, i, s, hq, by omega, rfl, rfl⟩
 have kw := hC 40 whole7R (by simp)
 have hput := hE 41 (fkR 30000 putF) (by simp)
 have htwo := hE 42 (fkR 30000 twoF) (by simp)
 have hcn := fun i (h0 : 0 ≤ i) (h1 : i < cnt c) => nth_map (c := c) tU h0 h1
 have hc := cnt_map c tU
 have hc0 := cnt0 c
 have hnl := needs_len c i.toNat
 have hll := leanN_len c s c.length
 unfold derS at hu
 unfold needsU at k1
 unfold leansU at k2
 clear hC hE
 cases hmc : mayC c i
 ·rw [hmc, if_neg (by simp)] at k2
  rw [hmc, if_neg (by simp)] at hu
  unfold cU at *
  generalize c.map tU = xs at *
  clear hput htwo k1 kw
  cbv
  (repeat ((first | refine tt ?_ rfl | refine cl ?_); cbv))
  exact hu.symm
 rw [hmc, if_pos rfl] at k1 k2
 rw [hmc] at hu
 have hm3 : 0 ≤ i ∧ i < cnt c ∧ goodC c = true := by
  unfold mayC at hmc
  simp only [Bool.and_eq_true, decide_eq_true_eq] at hmc
  exact ⟨hmc.1.1, hmc.1.2, hmc.2⟩
 obtain ⟨hi0, hi1, hg⟩ := hm3
 have hok : ∀ (q : Int) t, 0 ≤ q → c[q.toNat]? = some t → termOk t q = true := fun q t h0 ht => by
  have := goodC_iff.1 hg q.toNat t ht
  rwa [show (q.toNat : Int) = q by omega] at this
 have hlk := fun (q : Int) t (h0 : 0 ≤ q) (ht : c[q.toNat]? = some t) => lean_kids (s := s) ht (goodC_iff.1 hg q.toNat t ht)
 obtain ⟨nd, hnd⟩ : ∃ nd, nd = needs c i.toNat := ⟨_, rfl⟩
 obtain ⟨l, hl⟩ : ∃ l, l = leanN c s c.length := ⟨_, rfl⟩
 rw [← hnd] at k1 hnl
 rw [← hl] at k2 hll hu hlk
 have hul := uB_len l
 rcases Decidable.em (0 ≤ s) with hs | hs
 case inr =>
  rw [if_neg (fun h => hs h.2)] at hu
  clear hput htwo k1 kw hlk hok hcn
  unfold cU at *
  generalize c.map tU = xs at *
  generalize uB l = ls at *
  cbv
  (repeat ((first | refine ln fun _ _ _ => ?_ | refine tt ?_ | refine ff ?_ | refine cl ?_); cbv))
  exact hu.symm
 rw [if_pos ⟨rfl, hs⟩] at hu
 have hndx := fun j (h0 : 0 ≤ j) (h1 : j < cnt nd) => uB_nth (s := nd) h0 h1
 have hlx := fun j (h0 : 0 ≤ j) (h1 : j < cnt l) => uB_nth (s := l) h0 h1
 obtain ⟨nds, hnds⟩ : ∃ nds, nds = uB nd := ⟨_, rfl⟩
 obtain ⟨ls, hls⟩ : ∃ ls, ls = uB l := ⟨_, rfl⟩
 rw [← hls] at k2 hlx hul
 rw [← hnds] at hndx k1
 unfold cU at *
 -- the terms up to the root
 obtain ⟨ct, hct⟩ : ∃ ct, ct = c.take (i.toNat + 1) := ⟨_, rfl⟩
 obtain ⟨n0, hn0⟩ : ∃ n0, n0 = i + 1 := ⟨_, rfl⟩
 have hctn : n0 = cnt ct := by
  rw [hct, hn0]
  unfold cnt at *
  rw [List.length_take]
  omega
 have htk : (c.map tU).take n0.toNat = ct.map tU := by rw [hn0, hct, List.map_take, show (i + 1).toNat = i.toNat + 1 by omega]
 have hctm := cnt_map ct tU
 have hrow0 := fun (cp : Int) zs rest (hz : zs = ct.map tU ++ rest) (h : cp = cnt zs) => Row7.new hctn hz h
 have hder0 : derN c l nd (i.toNat + 1) 0 = (ct, List.replicate (i.toNat + 1) 0, false) := by rw [hct]; rfl
 generalize c.map tU = xs at *
 generalize hcts : ct.map tU = cts at *
 clear hct hg hcts
 cbv
 (repeat ((first | with_reducible refine ln fun _ _ _ => ?_ | refine ff ?_ | with_reducible refine wr fun _ _ => ?_ | refine cl ?_ | refine sd ?_); cbv))
 rename_i n1 hn1 hn1' e1 he1
 have h1 : n0 = e1 := by omega
 subst h1
 clear he1
 refine sw htk ?_
 cbv
 refine sd ?_ ⟨by omega, by omega, by omega, rfl⟩
 intro n2 hn2
 have h2 : n0 = n2 := by omega
 subst h2
 clear hn2
 refine ⟨fun zs h => absurd h (by omega), fun c1 zs h1 h2 hz => ?_⟩
 replace hz : zs = cts ++ List.replicate _ _ := hz
 have hrow := hrow0 c1 zs _ hz (by
  rw [hz]
  unfold cnt at *
  simp only [List.length_append, List.length_replicate]
  omega)
 clear hz hrow0
 cbv
 (repeat ((first | with_reducible refine wr fun _ _ => ?_ | refine rp fun _ _ _ => ?_ | refine sd ?_); cbv))
 rename_i e2 he2 dr hdr hdc
 have h3 : n0 = e2 := by omega
 subst h3
 clear he2
 have e0 : dr = uN (List.replicate (i.toNat + 1) 0) := by
  rw [hdr]
  unfold uN
  rw [List.map_replicate]
  congr 1
  omega
 clear hdr hdc
 refine letsY [0, 1, 6, 7, 8, 9, 10, 11] 0 3 4 2 ?_
 cbv
 refine loop_inv (fun j a h => ∃ (q : Int) (cc : List Tm) (dd : List Int) (bd : Bool) (n cp : Int) (rw ds : Rows), 0 ≤ q ∧ q ≤ n0 ∧ j = (n0 - q).toNat ∧ derN c l nd (i.toNat + 1) q.toNat = (cc, dd, bd) ∧ Row7 cc n cp rw ∧ ds = uN dd ∧ a = [.s 7 xs, ui i, .lost, .lost, .lost, .lost, .ptr 5 0, .s 1 ls, .s 1 nds, .ptr 6 0, .sl 7 n0 n0 1, ui q, .lost, .lost, .lost, .lost, .lost, .lost, .lost, .lost, .lost, .lost, .lost, .lost, .lost, .lost, .lost, .lost, .lost, .lost, .lost, .lost, .lost, .lost, .lost, .lost, .lost, .lost, .lost, .lost, .lost, .lost, .lost, .lost, .lost, .lost, .lost, .lost, .lost, .lost, .lost, .lost, .lost, .lost, .lost, .lost, .lost, .lost, .lost, .lost, .lost, .lost, .lost, .lost, .lost, .lost, .lost, .lost, .lost, .lost, .lost, .lost, .lost, .lost, .lost, .lost, .lost, .lost, .lost, .lost, .lost, .lost, .lost, .lost, .lost, .lost, .lost, .lost, .lost, .lost, .lost, .lost, .lost, .lost, .lost, .lost, .lost, .lost, .lost, .lost, .lost, .lost, .lost, .lost, .lost, .lost, .lost, .lost, .lost, .lost, .lost, .lost, .lost, .lost, .lost, .lost, .lost, .lost, .lost, .lost, .lost, .lost, .lost, .lost, .lost, .lost, .lost, .lost, .lost, .lost, .lost, .lost, .lost, .lost, .lost, .lost, .lost, .lost, .lost, .lost, .lost, .lost, .lost, .lost, .lost, .lost, .lost, .lost, .lost, .lost, .lost, .lost, .lost, .lost, .lost, .lost, .lost, .lost, .lost, .lost, .lost, .lost, .lost, .lost, .lost, .lost, .lost, .lost, .lost, .lost, .lost, .lost, .lost, .lost, .lost, .lost, .lost, .lost, .lost, .lost, .lost, .lost, .lost, .lost, .lost, .lost, .lost, .lost, .lost, .lost, .lost, .lost, .lost, .lost, .lost, .lost, .lost, .lost, .lost, .lost, .lost, .lost, .lost, .lost, .lost, .lost, .lost, .lost, .lost, .lost, .lost, .lost, .lost, .lost, .lost, .lost, .lost, .lost, .lost, .lost, .lost, .lost, .lost, .lost, .lost, .lost, .lost, .lost, .lost, .lost, .lost, .lost, .lost, .lost, .lost, .lost, .lost, .lost, .lost, .lost, .lost, .lost, .lost, .lost, .lost, .lost, .lost, .lost, .lost, .lost, .lost, .lost, .lost, .lost, .lost, .lost, .lost, .lost, .lost, .lost, .lost, .lost, .lost, .lost, .lost, .lost, .lost, .lost, .lost, .lost, .lost, .lost, .lost, .lost, .lost, .lost, .lost, .lost, .lost, .lost, .lost, .lost, .lost, .lost, .lost, .lost, .lost, .lost, .lost, .lost, .lost, .lost, .lost, .lost, .lost, .lost, .lost, .lost, .lost, .lost, .lost, .lost, .lost, .lost, .lost, .lost, .lost, .lost, .lost, .lost, .lost, .lost, .lost, .lost, .lost, .lost, .lost, .lost, .lost, .lost, .lost, .lost, .lost, .lost, .lost, .lost, .lost, .lost, .lost, .lost, .lost, .lost, .lost, .lost, .lost, .lost, .lost, .lost, .lost, .lost, .lost, .lost, .lost, .lost, .lost, .lost, .lost, .lost, .lost, .lost, .lost, .lost, .lost, .lost, .lost, .lost, .lost, .lost, .lost, .lost, .lost, .lost, .lost, .lost, .lost, .lost, .lost, .lost, .lost, .lost, .lost, .lost, .lost, .lost, .lost, .lost, .lost, .lost, .lost, .lost, .lost, .lost, .lost, .lost, .lost, .lost, .lost, .lost, .lost, .lost, .lost, .lost, .lost, .lost, .lost, .lost, .lost, .lost, .lost] ∧ h = mkY ds n cp bd rw) ?_ r n0.toNat _ _ (by omega) ⟨0, ct, _, false, n0, c1, zs, dr, by omega, by omega, by omega, hder0, hrow, e0, rfl, rfl⟩
 clear e0 hder0 hrow hctm hctn htk
 rintro j a h K ⟨q, cc, dd, bd, n, cp, rw, ds, q0, q1, hj, hder, hrow, hds, rfl, rfl⟩ hK
 have hdl : cnt dd = n0 := by
  have := der_len c l nd (i.toNat + 1) q.toNat
  rw [hder] at this
  dsimp only at this
  omega
 have hdc : cnt cc ≤ cnt c + 5 * q := by
  have := der_cnt c l nd (i.toNat + 1) q.toNat
  rw [hder] at this
  dsimp only at this
  omega
 have hen := hrow.en
 have hle := hrow.le
 have hec := hrow.ec
 obtain ⟨bR, hbR, hzR⟩ := hlx i hi0 (by omega)
 obtain ⟨xR, hxR, hzX⟩ := uN_nth (d := dd) hi0 (by omega)
 rw [← hds] at hzX
 obtain ⟨s0, l0, d0, kw0, iw0⟩ := tR (kw _ _ ⟨0, by omega, by omega, rfl, rfl⟩)
 cases bd
 rotate_left
 ·as_aux_lemma =>
   skip
   have hD : (derAll c i s).2.2 = true := by
    have := der_bad (c := c) (l := l) (nd := nd) (m := i.toNat + 1) (q := q.toNat) (by rw [hder]) (i.toNat + 1 - q.toNat)
    rw [show q.toNat + (i.toNat + 1 - q.toNat) = i.toNat + 1 by omega] at this
    unfold derAll
    rw [← hl, ← hnd]
    exact this
   have hu' : u = .agg [nilU, ui 0, ui 2] := by
    rw [hu]
    split <;> rw [if_pos (.inl hD)] <;> rfl
   clear hK hndx hlx hcn htwo hok hlk hder hD hu kw iw0
   cases bR
   ·cbv
    rcases Decidable.em (q ≤ i) with hqi | hqi <;> (
     (repeat ((first | refine tt ?_ | refine ff ?_ | with_reducible refine bq ?_ | refine cl ?_ | refine sd ?_ | refine el ?_); cbv))
     refine fk_call hput 6 8 (cc ++ [⟨1, 0, 0, 0, (s0, l0, d0)⟩], cnt cc, true) hrow ⟨⟨1, 0, 0, 0, (s0, l0, d0)⟩, rfl, rfl⟩ fun i1 n1 cp1 b1 ys1 g1 h1 r1 => ?_
     replace h1 : b1 = true := h1
     subst h1
     dsimp only at g1 r1
     have m1 := r1.en
     simp only [cnt_app] at m1
     cbv
     (repeat ((intro _ _); cbv))
     exact hu'.symm)
   ·cbv
    rcases Decidable.em (q ≤ i) with hqi | hqi <;> (
     (repeat ((first | refine tt ?_ | refine ff ?_ | with_reducible refine bq ?_ | refine sd ?_ | refine el ?_); cbv))
     exact hu'.symm)
 rcases (Decidable.em (q ≤ i)).symm with hqi | hqi
 ·as_aux_lemma =>
   skip
   have hD : derAll c i s = (cc, dd, false) := by
    unfold derAll
    rw [← hl, ← hnd, ← hder]
    congr 1
    omega
   rw [hD] at hu
   dsimp only at hu
   rw [bAt_of hbR, dAt_of hxR] at hu
   have htk2 := hrow.tk
   have hsm := small7 hdc hn (by omega)
   clear hK hndx hlx hcn htwo hok hlk hder hD hbR hxR kw
   cases bR
   ·rw [if_neg (by simp), if_neg (fun h => h.elim (fun h => by cases h) hsm.1)] at hu
    have e1 : litT 0 = ⟨1, 0, 0, 0, (s0, l0, d0)⟩ := by unfold litT; rw [iw0]
    rw [e1] at hu
    clear iw0 e1
    cbv
    (repeat ((first | refine ff ?_ | with_reducible refine bq ?_ | refine cl ?_ | refine sd ?_ | refine el ?_); cbv))
    refine fk_call hput 6 8 (cc ++ [⟨1, 0, 0, 0, (s0, l0, d0)⟩], cnt cc, false) hrow ⟨⟨1, 0, 0, 0, (s0, l0, d0)⟩, rfl, rfl⟩ fun i1 n1 cp1 b1 ys1 g1 h1 r1 => ?_
    replace h1 : b1 = false := h1
    subst h1
    dsimp only at g1 r1
    have m1 := r1.en
    simp only [cnt_app] at m1
    cbv
    have m3 := r1.le
    have m4 := r1.ec
    have m5 := r1.tk
    rw [← g1] at hu
    (repeat ((first | refine sd ?_ | intro _ _); cbv))
    rename_i zs e
    rw [hu, e, m5]
    exact gotU_ok _ i1
   ·rw [if_pos rfl, if_neg (fun h => h.elim (fun h => by cases h) hsm.2)] at hu
    cbv
    (repeat ((first | refine ff ?_ | with_reducible refine bq ?_ | refine sd ?_ | refine el ?_ | intro _ _); cbv))
    rename_i zs e
    rw [hu, e, htk2]
    exact gotU_ok cc xR
 obtain ⟨s1, l1, d1, kw1, iw1⟩ := tR (kw _ _ ⟨1, by omega, by omega, rfl, rfl⟩)
 obtain ⟨bN, hbN, hzN⟩ := hndx q q0 (by omega)
 obtain ⟨bL, hbL, hzL⟩ := hlx q q0 (by omega)
 obtain ⟨t, ht, hy⟩ := hcn q q0 (by omega)
 have hno := der_no (c := c) (l := l) (nd := nd) (m := i.toNat + 1) q0
 have hK' := fun cc dd bd n cp rw ds (h1 : derN c l nd (i.toNat + 1) (q + 1).toNat = (cc, dd, bd)) (h2 : Row7 cc n cp rw) (h3 : ds = uN dd) => hK (n0 - (q + 1)).toNat _ _ (by omega) ⟨q + 1, cc, dd, bd, n, cp, rw, ds, by omega, by omega, rfl, h1, h2, h3, rfl, rfl⟩
 have htm := term_cases (hok q t q0 ht)
 replace hlk := hlk q t q0 ht
 clear hK hndx hcn hok hbR hxR hzR hzX kw0 iw0 hu
 cases bN
 ·as_aux_lemma =>
   have hno := hno (fun h => by rw [hbN] at h; injection h.1 with h; cases h)
   have hK' := hK' cc dd false n cp rw ds (hno.trans hder) hrow hds
   obtain ⟨kd, ta, tb, m, ts, tl, td⟩ := t
   clear hput htwo kw kw1 hlk htm
   cbv
   (repeat ((first | refine tt ?_ | refine wr fun _ _ => ?_ | with_reducible refine bq ?_ | refine el ?_); cbv))
   rename_i q' hq'
   refine letsY [0, 1, 6, 7, 8, 9, 10, 11] 5 6 7 8 ?_
   rw [hq']
   exact hK'
 cases bL
 ·as_aux_lemma =>
   have hno := hno (fun h => by rw [hbL] at h; injection h.2 with h; cases h)
   have hK' := hK' cc dd false n cp rw ds (hno.trans hder) hrow hds
   obtain ⟨kd, ta, tb, m, ts, tl, td⟩ := t
   clear hput htwo kw kw1 hlk htm
   cbv
   (repeat ((first | refine tt ?_ | refine wr fun _ _ => ?_ | with_reducible refine bq ?_ | refine el ?_); cbv))
   rename_i q' hq'
   refine letsY [0, 1, 6, 7, 8, 9, 10, 11] 5 6 7 8 ?_
   rw [hq']
   exact hK'
 have hyes := der_yes q0 hder hbN hbL ht
 have hlk := hlk hbL
 obtain ⟨x0, hx0, hzD⟩ := uN_nth (d := dd) (k := q) q0 (by omega)
 rw [← hds] at hzD
 have hset : ∀ y ys, ys = ds.set q.toNat [ui y] → ys = uN (dd.set q.toNat y) := fun y ys e2 => by
  rw [e2, hds]
  unfold uN
  rw [List.map_set]
 have hcd : t.k = 2 ∨ (t.k = 7 ∧ inD l dd t.a ∧ t.a < q) ∨ (t.k = 8 ∧ (inD l dd t.a ∧ t.a < q) ∧ -1000000 ≤ t.n ∧ t.n ≤ 1000000) ∨ ((t.k = 3 ∨ t.k = 4 ∨ t.k = 5 ∨ t.k = 6) ∧ (inD l dd t.a ∧ t.a < q) ∧ (inD l dd t.b ∧ t.b < q) ∧ (bAt l t.a = true ∨ bAt l t.b = true)) := by
  rcases htm with h | ⟨h, h2⟩ | ⟨h, h2, h3⟩ | ⟨h, h2⟩ | ⟨h, h2, h3⟩
  ·rcases hlk with h4 | h4 | h4 <;> omega
  ·exact .inl h
  ·refine .inr (.inr (.inr ⟨h, ⟨⟨by omega, by omega, by omega⟩, h2.2⟩, ⟨⟨by omega, by omega, by omega⟩, h3.2⟩, ?_⟩))
   rcases hlk with h4 | h4 | h4
   ·omega
   ·omega
   ·exact h4.2
  ·exact .inr (.inl ⟨h, ⟨by omega, by omega, by omega⟩, h2.2⟩)
  ·exact .inr (.inr (.inl ⟨h, ⟨⟨by omega, by omega, by omega⟩, h2.2⟩, by omega, by omega⟩))
 obtain ⟨kd, ta, tb, m, ts, tl, td⟩ := t
 dsimp only at hcd
 unfold termS at hyes
 dsimp only at hyes
 clear hlk htm hno hder hbN hbL ht hdl hll hul hnl
 have e1 : litT 1 = ⟨1, 0, 0, 0, (s1, l1, d1)⟩ := by unfold litT; rw [iw1]
 clear iw1
 have hlit : ∀ v : Int, -1000000 ≤ v → v ≤ 1000000 → ∃ s2 l2 d2, C 40 [ui v] (.agg [ub s2, .l l2, .l d2]) ∧ litT v = ⟨1, 0, 0, 0, (s2, l2, d2)⟩ := fun v v0 v1 => by
  obtain ⟨s2, l2, d2, kw2, iw2⟩ := tR (kw _ _ ⟨v, by omega, by omega, rfl, rfl⟩)
  exact ⟨s2, l2, d2, kw2, by unfold litT; rw [iw2]⟩
 clear kw
 rcases hcd with h | ⟨h, ha, ha1⟩ | ⟨h, ⟨ha, ha1⟩, hm0, hm1⟩ | ⟨h, ⟨ha, ha1⟩, ⟨hb, hb1⟩, hab⟩
 ·as_aux_lemma =>
   subst h
   rw [if_pos rfl, e1] at hyes
   clear hlit e1
   cbv
   (repeat ((first | refine tt ?_ | with_reducible refine bq ?_ | refine cl ?_ | refine el ?_); cbv))
   refine fk_call hput 6 8 (cc ++ [⟨1, 0, 0, 0, (s1, l1, d1)⟩], cnt cc, false) hrow ⟨⟨1, 0, 0, 0, (s1, l1, d1)⟩, rfl, rfl⟩ fun i1 n1 cp1 b1 ys1 g1 h1 r1 => ?_
   replace h1 : b1 = false := h1
   subst h1
   dsimp only at g1 r1
   have m1 := r1.en
   simp only [cnt_app] at m1
   cbv
   (repeat ((first | refine wr fun _ _ => ?_ | refine sd ?_ | refine el ?_ | intro _ _); cbv))
   rename_i zs e q' hq'
   rw [g1] at e
   replace e := hset _ _ e
   refine letsY [0, 1, 6, 7, 8, 9, 10, 11] 5 6 7 11 ?_
   rw [hq']
   exact hK' _ _ _ _ _ _ _ hyes r1 e
 ·as_aux_lemma =>
   subst h
   obtain ⟨bA, xA, ea, ea2, ea3, ea4⟩ := ha.at hls hds
   obtain ⟨a0, a1, a2⟩ := ha
   rw [if_neg (by omega), if_pos rfl, ea2] at hyes
   clear hlit e1 ea ea2
   cbv
   (repeat ((first | refine tt ?_ | refine ff ?_ | with_reducible refine bq ?_ | refine cl ?_ | refine sd ?_ | refine el ?_); cbv))
   refine fk_call hput 6 8 (cc ++ [mkT 7 xA 0 0], cnt cc, false) hrow ⟨mkT 7 xA 0 0, rfl, rfl⟩ fun i1 n1 cp1 b1 ys1 g1 h1 r1 => ?_
   replace h1 : b1 = false := h1
   subst h1
   dsimp only at g1 r1
   have m1 := r1.en
   simp only [cnt_app] at m1
   cbv
   (repeat ((first | refine wr fun _ _ => ?_ | refine sd ?_ | refine el ?_ | intro _ _); cbv))
   rename_i zs e q' hq'
   rw [g1] at e
   replace e := hset _ _ e
   refine letsY [0, 1, 6, 7, 8, 9, 10, 11] 5 6 7 11 ?_
   rw [hq']
   exact hK' _ _ _ _ _ _ _ hyes r1 e
 ·as_aux_lemma =>
   subst h
   obtain ⟨bA, xA, ea, ea2, ea3, ea4⟩ := ha.at hls hds
   obtain ⟨a0, a1, a2⟩ := ha
   unfold raisedS at hyes
   dsimp only at hyes
   rw [if_neg (by omega), if_neg (by omega), if_neg (by omega), if_neg (by omega), if_pos rfl, ea2] at hyes
   rcases Decidable.em (m = 1) with hm | hm
   ·rw [if_pos hm] at hyes
    clear hlit e1 ea ea2
    cbv
    (repeat ((first | refine tt ?_ | refine ff ?_ | refine wr fun _ _ => ?_ | with_reducible refine bq ?_ | refine cl ?_ | refine sd ?_ | refine el ?_ | intro _ _); cbv))
    rename_i zs e q' hq'
    replace e := hset _ _ e
    refine letsY [0, 1, 6, 7, 8, 9, 10, 11] 5 6 7 8 ?_
    rw [hq']
    exact hK' _ _ _ _ _ _ _ hyes hrow e
   ·rw [if_neg hm] at hyes
    obtain ⟨s2, l2, d2, kw2, e2⟩ := hlit m hm0 hm1
    rw [e2] at hyes
    generalize hbX : (false || decide (m - 1 < -128)) = bX at hyes
    clear hlit e1 e2 ea ea2
    cbv
    (repeat ((first | refine tt ?_ | refine ff ?_ | with_reducible refine bq ?_ | refine cl ?_ | refine el ?_); cbv))
    refine fk_call hput 6 8 (cc ++ [⟨1, 0, 0, 0, (s2, l2, d2)⟩], cnt cc, false) hrow ⟨⟨1, 0, 0, 0, (s2, l2, d2)⟩, rfl, rfl⟩ fun i1 n1 cp1 b1 ys1 g1 h1 r1 => ?_
    replace h1 : b1 = false := h1
    subst h1
    dsimp only at g1 r1
    have m1 := r1.en
    simp only [cnt_app] at m1
    cbv
    (repeat (((refine wr fun _ _ => ?_)); cbv))
    rename_i m' hm'
    refine fk_call (bad := false) hput 6 11 (cc ++ [⟨1, 0, 0, 0, (s2, l2, d2)⟩] ++ [mkT 8 ta 0 m'], cnt (cc ++ [⟨1, 0, 0, 0, (s2, l2, d2)⟩]), false || (decide (m' < -128) && decide ((8 : Int) = 8))) r1 ⟨mkT 8 ta 0 m', rfl, rfl⟩ fun i2 n2 cp2 b2 ys2 g2 h2 r2 => ?_
    dsimp only at g2 r2
    have m2 := r2.en
    simp only [cnt_app] at m2
    cbv
    repeat' (first
     | refine And.intro ?_ ?_
     | (
      refine fk_call htwo 6 12 (cc ++ [⟨1, 0, 0, 0, (s2, l2, d2)⟩] ++ [mkT 8 ta 0 m'] ++ [mkT 5 i1 i2 0], cnt (cc ++ [⟨1, 0, 0, 0, (s2, l2, d2)⟩] ++ [mkT 8 ta 0 m']), b2) r2 ⟨5, i1, i2, rfl, rfl⟩ fun i3 n3 cp3 b3 ys3 g3 h3 r3 => ?_
      dsimp only at g3 r3
      have m3 := r3.en
      simp only [cnt_app] at m3
      cbv)
     | (
      refine fk_call htwo 6 13 (cc ++ [⟨1, 0, 0, 0, (s2, l2, d2)⟩] ++ [mkT 8 ta 0 m'] ++ [mkT 5 i1 i2 0] ++ [mkT 5 i3 xA 0], cnt (cc ++ [⟨1, 0, 0, 0, (s2, l2, d2)⟩] ++ [mkT 8 ta 0 m'] ++ [mkT 5 i1 i2 0]), b3) r3 ⟨5, i3, xA, rfl, rfl⟩ fun i4 n4 cp4 b4 ys4 g4 h4 r4 => ?_
      dsimp only at g4 r4
      have m4 := r4.en
      simp only [cnt_app] at m4
      cbv)
     | (refine el ?_; cbv)
     | (refine sd ?_; cbv))
    all_goals
     rw [g3, g2, g1, hm'] at r4
     rw [g2, g1, hm'] at g4
     have hb4 : b4 = bX := by
      rw [← hbX, h4, h3, h2, hm']
      by_cases hz : m - 1 < -128 <;> simp [hz]
     subst hb4
     (repeat ((first | refine wr fun _ _ => ?_ | intro _ _); cbv))
     rename_i zs e q' hq'
     rw [g4] at e
     replace e := hset _ _ e
     refine letsY [0, 1, 6, 7, 8, 9, 10, 11] 5 6 7 14 ?_
     rw [hq']
     exact hK' _ _ _ _ _ _ _ hyes r4 e
 obtain ⟨bA, xA, ea, ea2, ea3, ea4⟩ := ha.at hls hds
 obtain ⟨bB, xB, eb, eb2, eb3, eb4⟩ := hb.at hls hds
 obtain ⟨a0, a1, a2⟩ := ha
 obtain ⟨b0, b1, b2⟩ := hb
 unfold sumS productS quotientS at hyes
 dsimp only at hyes
 rw [ea, ea2, eb, eb2] at hyes
 rw [ea, eb] at hab
 clear hlit e1 ea ea2 eb eb2
 rcases h with h | h | h | h
 ·as_aux_lemma =>
   subst h
   rw [if_neg (by omega), if_neg (by omega), if_neg (by omega), if_neg (by omega), if_neg (by omega)] at hyes
   cases bA
   ·rw [if_neg (by simp), if_neg (by omega)] at hyes
    cbv
    (repeat ((first | refine tt ?_ | refine ff ?_ | refine wr fun _ _ => ?_ | with_reducible refine bq ?_ | refine cl ?_ | refine sd ?_ | refine el ?_ | intro _ _); cbv))
    rename_i zs e q' hq'
    replace e := hset _ _ e
    refine letsY [0, 1, 6, 7, 8, 9, 10, 11] 5 6 7 8 ?_
    rw [hq']
    exact hK' _ _ _ _ _ _ _ hyes hrow e
   ·rw [if_pos rfl] at hyes
    cases bB
    ·rw [if_neg (by simp)] at hyes
     cbv
     (repeat ((first | refine tt ?_ | refine ff ?_ | refine wr fun _ _ => ?_ | with_reducible refine bq ?_ | refine cl ?_ | refine sd ?_ | refine el ?_ | intro _ _); cbv))
     rename_i zs e q' hq'
     replace e := hset _ _ e
     refine letsY [0, 1, 6, 7, 8, 9, 10, 11] 5 6 7 8 ?_
     rw [hq']
     exact hK' _ _ _ _ _ _ _ hyes hrow e
    ·rw [if_pos rfl] at hyes
     cbv
     (repeat ((first | refine tt ?_ | refine ff ?_ | with_reducible refine bq ?_ | refine cl ?_ | refine sd ?_ | refine el ?_); cbv))
     refine fk_call htwo 6 8 (cc ++ [mkT 3 xA xB 0], cnt cc, false) hrow ⟨3, xA, xB, rfl, rfl⟩ fun i1 n1 cp1 b1 ys1 g1 h1 r1 => ?_
     replace h1 : b1 = false := h1
     subst h1
     dsimp only at g1 r1
     have m1 := r1.en
     simp only [cnt_app] at m1
     cbv
     (repeat ((first | refine wr fun _ _ => ?_ | refine sd ?_ | refine el ?_ | intro _ _); cbv))
     rename_i zs e q' hq'
     rw [g1] at e
     replace e := hset _ _ e
     refine letsY [0, 1, 6, 7, 8, 9, 10, 11] 5 6 7 11 ?_
     rw [hq']
     exact hK' _ _ _ _ _ _ _ hyes r1 e
 ·as_aux_lemma =>
   subst h
   rw [if_neg (by omega), if_neg (by omega), if_neg (by omega), if_neg (by omega), if_neg (by omega)] at hyes
   cases bA
   ·rw [if_neg (by simp), if_pos rfl] at hyes
    cbv
    (repeat ((first | refine tt ?_ | refine ff ?_ | with_reducible refine bq ?_ | refine cl ?_ | refine sd ?_ | refine el ?_); cbv))
    refine fk_call hput 6 8 (cc ++ [mkT 7 xB 0 0], cnt cc, false) hrow ⟨mkT 7 xB 0 0, rfl, rfl⟩ fun i1 n1 cp1 b1 ys1 g1 h1 r1 => ?_
    replace h1 : b1 = false := h1
    subst h1
    dsimp only at g1 r1
    have m1 := r1.en
    simp only [cnt_app] at m1
    cbv
    (repeat ((first | refine wr fun _ _ => ?_ | refine sd ?_ | refine el ?_ | intro _ _); cbv))
    rename_i zs e q' hq'
    rw [g1] at e
    replace e := hset _ _ e
    refine letsY [0, 1, 6, 7, 8, 9, 10, 11] 5 6 7 11 ?_
    rw [hq']
    exact hK' _ _ _ _ _ _ _ hyes r1 e
   ·rw [if_pos rfl] at hyes
    cases bB
    ·rw [if_neg (by simp)] at hyes
     cbv
     (repeat ((first | refine tt ?_ | refine ff ?_ | refine wr fun _ _ => ?_ | with_reducible refine bq ?_ | refine cl ?_ | refine sd ?_ | refine el ?_ | intro _ _); cbv))
     rename_i zs e q' hq'
     replace e := hset _ _ e
     refine letsY [0, 1, 6, 7, 8, 9, 10, 11] 5 6 7 8 ?_
     rw [hq']
     exact hK' _ _ _ _ _ _ _ hyes hrow e
    ·rw [if_pos rfl] at hyes
     cbv
     (repeat ((first | refine tt ?_ | refine ff ?_ | with_reducible refine bq ?_ | refine cl ?_ | refine sd ?_ | refine el ?_); cbv))
     refine fk_call htwo 6 8 (cc ++ [mkT 4 xA xB 0], cnt cc, false) hrow ⟨4, xA, xB, rfl, rfl⟩ fun i1 n1 cp1 b1 ys1 g1 h1 r1 => ?_
     replace h1 : b1 = false := h1
     subst h1
     dsimp only at g1 r1
     have m1 := r1.en
     simp only [cnt_app] at m1
     cbv
     (repeat ((first | refine wr fun _ _ => ?_ | refine sd ?_ | refine el ?_ | intro _ _); cbv))
     rename_i zs e q' hq'
     rw [g1] at e
     replace e := hset _ _ e
     refine letsY [0, 1, 6, 7, 8, 9, 10, 11] 5 6 7 11 ?_
     rw [hq']
     exact hK' _ _ _ _ _ _ _ hyes r1 e
 ·as_aux_lemma =>
   subst h
   rw [if_neg (by omega), if_neg (by omega), if_pos rfl] at hyes
   cases bB
   ·cases bA
    ·exact absurd hab (by simp)
    rw [if_neg (by simp), if_pos rfl] at hyes
    cbv
    (repeat ((first | refine tt ?_ | refine ff ?_ | with_reducible refine bq ?_ | refine cl ?_ | refine sd ?_ | refine el ?_); cbv))
    refine fk_call htwo 6 8 (cc ++ [mkT 5 xA tb 0], cnt cc, false) hrow ⟨5, xA, tb, rfl, rfl⟩ fun i1 n1 cp1 b1 ys1 g1 h1 r1 => ?_
    replace h1 : b1 = false := h1
    subst h1
    dsimp only at g1 r1
    have m1 := r1.en
    simp only [cnt_app] at m1
    cbv
    (repeat ((first | refine wr fun _ _ => ?_ | refine sd ?_ | refine el ?_ | intro _ _); cbv))
    rename_i zs e q' hq'
    rw [g1] at e
    replace e := hset _ _ e
    refine letsY [0, 1, 6, 7, 8, 9, 10, 11] 5 6 7 11 ?_
    rw [hq']
    exact hK' _ _ _ _ _ _ _ hyes r1 e
   ·rw [if_pos rfl] at hyes
    cases bA
    ·rw [if_neg (by simp)] at hyes
     cbv
     (repeat ((first | refine tt ?_ | refine ff ?_ | with_reducible refine bq ?_ | refine cl ?_ | refine sd ?_ | refine el ?_); cbv))
     refine fk_call htwo 6 8 (cc ++ [mkT 5 ta xB 0], cnt cc, false) hrow ⟨5, ta, xB, rfl, rfl⟩ fun i1 n1 cp1 b1 ys1 g1 h1 r1 => ?_
     replace h1 : b1 = false := h1
     subst h1
     dsimp only at g1 r1
     have m1 := r1.en
     simp only [cnt_app] at m1
     cbv
     (repeat ((first | refine wr fun _ _ => ?_ | refine sd ?_ | refine el ?_ | intro _ _); cbv))
     rename_i zs e q' hq'
     rw [g1] at e
     replace e := hset _ _ e
     refine letsY [0, 1, 6, 7, 8, 9, 10, 11] 5 6 7 11 ?_
     rw [hq']
     exact hK' _ _ _ _ _ _ _ hyes r1 e
    rw [if_pos rfl] at hyes
    cbv
    (repeat ((first | refine tt ?_ | refine ff ?_ | with_reducible refine bq ?_ | refine cl ?_ | refine sd ?_ | refine el ?_); cbv))
    refine fk_call htwo 6 8 (cc ++ [mkT 5 xA tb 0], cnt cc, false) hrow ⟨5, xA, tb, rfl, rfl⟩ fun i1 n1 cp1 b1 ys1 g1 h1 r1 => ?_
    replace h1 : b1 = false := h1
    subst h1
    dsimp only at g1 r1
    have m1 := r1.en
    simp only [cnt_app] at m1
    cbv
    (repeat ((first | refine sd ?_ | refine el ?_ | intro _ _); cbv))
    rename_i z1 y1
    have f4 := set_ne y1 hb1 b0 eb4
    have f5 := set_self y1 hzD
    (repeat ((refine el ?_); cbv))
    refine fk_call htwo 6 11 (cc ++ [mkT 5 xA tb 0] ++ [mkT 5 ta xB 0], cnt (cc ++ [mkT 5 xA tb 0]), false) r1 ⟨5, ta, xB, rfl, rfl⟩ fun i2 n2 cp2 b2 ys2 g2 h2 r2 => ?_
    replace h2 : b2 = false := h2
    subst h2
    dsimp only at g2 r2
    have m2 := r2.en
    simp only [cnt_app] at m2
    cbv
    (repeat ((first | refine sd ?_ | refine el ?_ | intro _ _); cbv))
    rename_i z2 y2
    have f6 := set_self y2 f5
    (repeat ((intro _ _); cbv))
    refine fk_call htwo 6 12 (cc ++ [mkT 5 xA tb 0] ++ [mkT 5 ta xB 0] ++ [mkT 3 i1 i2 0], cnt (cc ++ [mkT 5 xA tb 0] ++ [mkT 5 ta xB 0]), false) r2 ⟨3, i1, i2, rfl, rfl⟩ fun i3 n3 cp3 b3 ys3 g3 h3 r3 => ?_
    replace h3 : b3 = false := h3
    subst h3
    dsimp only at g3 r3
    have m3 := r3.en
    simp only [cnt_app] at m3
    cbv
    rw [g1, g2] at r3
    (repeat ((first | refine wr fun _ _ => ?_ | refine sd ?_ | refine el ?_ | intro _ _); cbv))
    rename_i zs e q' hq'
    rw [y2, y1, List.set_set, List.set_set, g3] at e
    replace e := hset _ _ e
    refine letsY [0, 1, 6, 7, 8, 9, 10, 11] 5 6 7 13 ?_
    rw [hq']
    exact hK' _ _ _ _ _ _ _ hyes r3 e
 ·as_aux_lemma =>
   subst h
   rw [if_neg (by omega), if_neg (by omega), if_neg (by omega), if_pos rfl] at hyes
   cases bB
   ·rw [if_neg (by simp)] at hyes
    cbv
    (repeat ((first | refine tt ?_ | refine ff ?_ | with_reducible refine bq ?_ | refine cl ?_ | refine sd ?_ | refine el ?_); cbv))
    refine fk_call htwo 6 8 (cc ++ [mkT 6 xA tb 0], cnt cc, false) hrow ⟨6, xA, tb, rfl, rfl⟩ fun i1 n1 cp1 b1 ys1 g1 h1 r1 => ?_
    replace h1 : b1 = false := h1
    subst h1
    dsimp only at g1 r1
    have m1 := r1.en
    simp only [cnt_app] at m1
    cbv
    (repeat ((first | refine wr fun _ _ => ?_ | refine sd ?_ | refine el ?_ | intro _ _); cbv))
    rename_i zs e q' hq'
    rw [g1] at e
    replace e := hset _ _ e
    refine letsY [0, 1, 6, 7, 8, 9, 10, 11] 5 6 7 11 ?_
    rw [hq']
    exact hK' _ _ _ _ _ _ _ hyes r1 e
   ·rw [if_pos rfl] at hyes
    cases bA
    ·rw [if_neg (by simp)] at hyes
     cbv
     (repeat ((first | refine tt ?_ | refine ff ?_ | with_reducible refine bq ?_ | refine cl ?_ | refine sd ?_ | refine el ?_); cbv))
     refine fk_call htwo 6 8 (cc ++ [mkT 5 ta xB 0], cnt cc, false) hrow ⟨5, ta, xB, rfl, rfl⟩ fun i1 n1 cp1 b1 ys1 g1 h1 r1 => ?_
     replace h1 : b1 = false := h1
     subst h1
     dsimp only at g1 r1
     have m1 := r1.en
     simp only [cnt_app] at m1
     cbv
     (repeat ((refine el ?_); cbv))
     refine fk_call hput 6 11 (cc ++ [mkT 5 ta xB 0] ++ [mkT 7 i1 0 0], cnt (cc ++ [mkT 5 ta xB 0]), false) r1 ⟨mkT 7 i1 0 0, rfl, rfl⟩ fun i2 n2 cp2 b2 ys2 g2 h2 r2 => ?_
     replace h2 : b2 = false := h2
     subst h2
     dsimp only at g2 r2
     have m2 := r2.en
     simp only [cnt_app] at m2
     cbv
     (repeat ((intro _ _); cbv))
     refine fk_call hput 6 12 (cc ++ [mkT 5 ta xB 0] ++ [mkT 7 i1 0 0] ++ [mkT 8 tb 0 2], cnt (cc ++ [mkT 5 ta xB 0] ++ [mkT 7 i1 0 0]), false) r2 ⟨mkT 8 tb 0 2, rfl, rfl⟩ fun i3 n3 cp3 b3 ys3 g3 h3 r3 => ?_
     replace h3 : b3 = false := h3
     subst h3
     dsimp only at g3 r3
     have m3 := r3.en
     simp only [cnt_app] at m3
     cbv
     (repeat ((intro _ _); cbv))
     refine fk_call htwo 6 13 (cc ++ [mkT 5 ta xB 0] ++ [mkT 7 i1 0 0] ++ [mkT 8 tb 0 2] ++ [mkT 6 i2 i3 0], cnt (cc ++ [mkT 5 ta xB 0] ++ [mkT 7 i1 0 0] ++ [mkT 8 tb 0 2]), false) r3 ⟨6, i2, i3, rfl, rfl⟩ fun i4 n4 cp4 b4 ys4 g4 h4 r4 => ?_
     replace h4 : b4 = false := h4
     subst h4
     dsimp only at g4 r4
     have m4 := r4.en
     simp only [cnt_app] at m4
     cbv
     rw [g3, g2, g1] at r4
     rw [g1] at g4
     (repeat ((first | refine wr fun _ _ => ?_ | refine sd ?_ | refine el ?_ | intro _ _); cbv))
     rename_i zs e q' hq'
     rw [g4] at e
     replace e := hset _ _ e
     refine letsY [0, 1, 6, 7, 8, 9, 10, 11] 5 6 7 14 ?_
     rw [hq']
     exact hK' _ _ _ _ _ _ _ hyes r4 e
    rw [if_pos rfl] at hyes
    cbv
    (repeat ((first | refine tt ?_ | refine ff ?_ | with_reducible refine bq ?_ | refine cl ?_ | refine sd ?_ | refine el ?_); cbv))
    refine fk_call htwo 6 8 (cc ++ [mkT 5 xA tb 0], cnt cc, false) hrow ⟨5, xA, tb, rfl, rfl⟩ fun i1 n1 cp1 b1 ys1 g1 h1 r1 => ?_
    replace h1 : b1 = false := h1
    subst h1
    dsimp only at g1 r1
    have m1 := r1.en
    simp only [cnt_app] at m1
    cbv
    (repeat ((first | refine sd ?_ | refine el ?_); cbv))
    refine fk_call htwo 6 11 (cc ++ [mkT 5 xA tb 0] ++ [mkT 5 ta xB 0], cnt (cc ++ [mkT 5 xA tb 0]), false) r1 ⟨5, ta, xB, rfl, rfl⟩ fun i2 n2 cp2 b2 ys2 g2 h2 r2 => ?_
    replace h2 : b2 = false := h2
    subst h2
    dsimp only at g2 r2
    have m2 := r2.en
    simp only [cnt_app] at m2
    cbv
    (repeat ((refine el ?_); cbv))
    refine fk_call htwo 6 12 (cc ++ [mkT 5 xA tb 0] ++ [mkT 5 ta xB 0] ++ [mkT 4 i1 i2 0], cnt (cc ++ [mkT 5 xA tb 0] ++ [mkT 5 ta xB 0]), false) r2 ⟨4, i1, i2, rfl, rfl⟩ fun i3 n3 cp3 b3 ys3 g3 h3 r3 => ?_
    replace h3 : b3 = false := h3
    subst h3
    dsimp only at g3 r3
    have m3 := r3.en
    simp only [cnt_app] at m3
    cbv
    (repeat ((intro _ _); cbv))
    refine fk_call hput 6 13 (cc ++ [mkT 5 xA tb 0] ++ [mkT 5 ta xB 0] ++ [mkT 4 i1 i2 0] ++ [mkT 8 tb 0 2], cnt (cc ++ [mkT 5 xA tb 0] ++ [mkT 5 ta xB 0] ++ [mkT 4 i1 i2 0]), false) r3 ⟨mkT 8 tb 0 2, rfl, rfl⟩ fun i4 n4 cp4 b4 ys4 g4 h4 r4 => ?_
    replace h4 : b4 = false := h4
    subst h4
    dsimp only at g4 r4
    have m4 := r4.en
    simp only [cnt_app] at m4
    cbv
    (repeat ((intro _ _); cbv))
    refine fk_call htwo 6 14 (cc ++ [mkT 5 xA tb 0] ++ [mkT 5 ta xB 0] ++ [mkT 4 i1 i2 0] ++ [mkT 8 tb 0 2] ++ [mkT 6 i3 i4 0], cnt (cc ++ [mkT 5 xA tb 0] ++ [mkT 5 ta xB 0] ++ [mkT 4 i1 i2 0] ++ [mkT 8 tb 0 2]), false) r4 ⟨6, i3, i4, rfl, rfl⟩ fun i5 n5 cp5 b5 ys5 g5 h5 r5 => ?_
    replace h5 : b5 = false := h5
    subst h5
    dsimp only at g5 r5
    have m5 := r5.en
    simp only [cnt_app] at m5
    cbv
    rw [g4, g3, g2, g1] at r5
    rw [g2, g1] at g5
    (repeat ((first | refine wr fun _ _ => ?_ | refine sd ?_ | refine el ?_ | intro _ _); cbv))
    rename_i zs e q' hq'
    rw [g5] at e
    replace e := hset _ _ e
    refine letsY [0, 1, 6, 7, 8, 9, 10, 11] 5 6 7 15 ?_
    rw [hq']
    exact hK' _ _ _ _ _ _ _ hyes r5 e
theorem ownNatR {l : List Int} (h : cnt l ≤ 1000000) : steelyardkeep_OwnNat.R [.l l] (.l l) := ⟨l, l, rfl, by unfold steelyardkeep_OwnNat.f; unfold cnt at h; simp; omega, rfl⟩
def ownIR (us : List U) (u : U) : Prop := ∃ s l, cnt l ≤ 1000000 ∧ us = [.agg [ub s, .l l]] ∧ u = .agg [ub s, .l l]
theorem ownI_ok : SoundF Tryz.prog 65 ownIR := sound [(66, steelyardkeep_OwnNat.R)] (orc_cons steelyardkeep_OwnNat.sound orc_nil) Tryz.func65 (by kernel_rfl) (by kernel_rfl) fun us u hR => ⟨0, fun C E hC => by
 obtain ⟨s, l, h, rfl, hu⟩ := hR
 have k1 := hC 66 steelyardkeep_OwnNat.R (by simp) _ _ (ownNatR h)
 cbv; (repeat ((refine cl ?_); cbv)); exact hu.symm⟩
def ownQR (us : List U) (u : U) : Prop := ∃ q : R3, cnt q.2.1 ≤ 1000000 ∧ cnt q.2.2 ≤ 1000000 ∧ us = [uR q] ∧ u = uR q
theorem ownQ_ok : SoundF Tryz.prog 34 ownQR := sound [(65, ownIR), (66, steelyardkeep_OwnNat.R)] (orc_cons ownI_ok (orc_cons steelyardkeep_OwnNat.sound orc_nil)) Tryz.func34 (by kernel_rfl) (by kernel_rfl) fun us u hR => ⟨0, fun C E hC => by
 obtain ⟨⟨s, l, d⟩, h, h', rfl, hu⟩ := hR
 have k1 := hC 65 ownIR (by simp) _ _ ⟨s, l, h, rfl, rfl⟩
 have k2 := hC 66 steelyardkeep_OwnNat.R (by simp) _ _ (ownNatR h')
 cbv; (repeat ((refine cl ?_); cbv)); exact hu.symm⟩
theorem cnt_in {row zs : Rows} {z : List U} {l d : Int} (h0 : 0 ≤ l) (hd : d = cnt row) (h : l + 1 ≤ d) (hz : zs = row.take l.toNat ++ [z] ++ row.drop (l.toNat + 1)) : d = cnt zs := by
 rw [hd, hz]
 unfold cnt at *
 simp
 omega
theorem cnt_new {row zs : Rows} {z e : List U} {l c d : Int} (h0 : 0 ≤ l) (hd : d = cnt row) (hl : l ≤ d) (h : l + 1 ≤ c) (hz : zs = row.take l.toNat ++ [z] ++ List.replicate (c.toNat - (l.toNat + 1)) e) : c = cnt zs := by
 rw [hz]
 unfold cnt at *
 simp
 omega
theorem take_row {row ws zs rest : Rows} {z : List U} {l : Int} (hl : l = cnt ws) (hr : row.take l.toNat = ws) (hz : zs = row.take l.toNat ++ [z] ++ rest) : zs.take (l + 1).toNat = ws ++ [z] := by
 rw [hz, hr]
 have : (l + 1).toNat = (ws ++ [z]).length := by
  rw [List.length_append, hl]
  unfold cnt
  simp
 rw [this, List.take_left]
theorem take_next {α : Type} {cs : List α} {q : Int} {z : α} (h0 : 0 ≤ q) (h : cs[q.toNat]? = some z) : cs.take (q + 1).toNat = cs.take q.toNat ++ [z] := by
 rw [show (q + 1).toNat = q.toNat + 1 by omega, List.take_add_one, h]
 rfl
theorem cnt_take {α : Type} {cs : List α} {q : Int} (h0 : 0 ≤ q) (h1 : q ≤ cnt cs) : cnt (cs.take q.toNat) = q := by
 unfold cnt at *
 rw [List.length_take]
 omega
theorem over_no {n : Int} {q : R3} (h : overQ n q = false) : cnt q.2.1 ≤ n ∧ cnt q.2.2 ≤ n := by
 unfold overQ at h
 simp only [Bool.or_eq_false_iff, decide_eq_false_iff_not] at h
 omega
theorem largeC_all {c : List Tm} (h : largeC c = false) : cnt c ≤ 400 ∧ ∀ t ∈ c, cnt t.q.2.1 ≤ 1000000 ∧ cnt t.q.2.2 ≤ 1000000 := by
 unfold largeC at h
 simp only [Bool.or_eq_false_iff, decide_eq_false_iff_not] at h
 refine ⟨by have := h.1.1; omega, fun t ht => ?_⟩
 have := List.any_eq_false.1 h.1.2 t ht
 have := over_no (by simpa using this)
 omega
def keepCoreR (us : List U) (u : U) : Prop := ∃ a : List Tm, (∀ t ∈ a, cnt t.q.2.1 ≤ 1000000 ∧ cnt t.q.2.2 ≤ 1000000) ∧ cnt a ≤ 1000000 ∧ us = [cU a, cU a] ∧ u = ub true
theorem keepCore_ok : SoundF Tryz.prog 13 keepCoreR := sound [(24, keepR)] (orc_cons keep_ok orc_nil) Tryz.func13 (by kernel_rfl) (by kernel_rfl) fun us u hR => by
 obtain ⟨a, hq, hn, rfl, hu⟩ := hR
 obtain ⟨r, hr⟩ : ∃ r, (cnt a).toNat < r := ⟨_, Nat.lt_succ_self _⟩
 refine ⟨r, fun C E hC => ?_⟩
 have hva := fun i (h0 : 0 ≤ i) (h1 : i < cnt a) => nth_map (c := a) tU h0 h1
 have kr : ∀ (i : Int) t, a[i.toNat]? = some t → C 24 [.agg (qU t.q), .agg (qU t.q)] (ub true) := fun i t h => by
  have := hC 24 keepR (by simp) _ _ ⟨t.q, t.q, (hq t (List.mem_of_getElem? h)).1, (hq t (List.mem_of_getElem? h)).2, rfl, rfl⟩
  rwa [decide_eq_true rfl] at this
 have hca := cnt_map a tU
 have ha0 := cnt0 a
 unfold cU
 generalize a.map tU = xs at *
 clear hC hq
 cbv
 (repeat ((first | with_reducible refine ln fun _ _ _ => ?_ | refine ff ?_); cbv))
 refine lets [0, 1, 5] ?_
 cbv
 refine loop_inv (fun j a1 h => ∃ i : Int, 0 ≤ i ∧ i ≤ cnt a ∧ j = (cnt a - i).toNat ∧ a1 = [.s 7 xs, .s 7 xs, .lost, .lost, .lost, ui i, .lost, .lost, .lost, .lost, .lost, .lost, .lost, .lost, .lost, .lost, .lost, .lost, .lost, .lost, .lost, .lost, .lost, .lost, .lost, .lost, .lost, .lost, .lost, .lost, .lost, .lost, .lost, .lost, .lost, .lost, .lost, .lost, .lost, .lost, .lost, .lost, .lost, .lost, .lost, .lost, .lost, .lost, .lost, .lost, .lost, .lost, .lost, .lost, .lost, .lost, .lost, .lost, .lost, .lost, .lost] ∧ h = []) ?_ r (cnt a).toNat _ _ hr ⟨0, by omega, by omega, by omega, rfl, rfl⟩
 rintro j a1 h K ⟨i, i0, i1, hj, rfl, rfl⟩ hK
 rcases Decidable.em (i < cnt a) with hlt | hlt
 ·obtain ⟨⟨kd, ta, tb, m, s, l, d⟩, hx, hx2⟩ := hva i i0 hlt
  have k1 := kr i _ hx
  clear hva kr
  dsimp only at k1
  cbv
  (repeat ((first | with_reducible refine ln fun _ _ _ => ?_ | refine tt ?_); cbv))
  refine el ?_ (by omega) hx2
  cbv
  (repeat ((refine tt ?_); cbv))
  refine el ?_ (by omega) hx2
  cbv
  (repeat ((first | refine ff ?_ | with_reducible refine wr fun _ _ => ?_ | with_reducible refine bq ?_ | refine cl ?_); cbv))
  rename_i q' hq'
  refine lets [0, 1, 5] ?_
  exact hK (cnt a - (i + 1)).toNat _ _ (by omega) ⟨i + 1, by omega, by omega, rfl, by rw [hq']; rfl, rfl⟩
 ·clear hva kr hK
  cbv
  (repeat ((first | with_reducible refine ln fun _ _ _ => ?_ | refine ff ?_); cbv))
  exact hu.symm
def copyCR (us : List U) (u : U) : Prop := ∃ xs : List Tm, (∀ t ∈ xs, cnt t.q.2.1 ≤ 1000000 ∧ cnt t.q.2.2 ≤ 1000000) ∧ cnt xs ≤ 1000000 ∧ us = [cU xs] ∧ u = cU xs
theorem copyC_ok : SoundF Tryz.prog 10 copyCR := relax (sound (R := fun us u => ∃ xs : List Tm, (∀ t ∈ xs, cnt t.q.2.1 ≤ 1000000 ∧ cnt t.q.2.2 ≤ 1000000) ∧ cnt xs ≤ 1000000 ∧ us = [cU xs] ∧ u = if xs = [] then nilU else cU xs) [(34, ownQR)] (orc_cons ownQ_ok orc_nil) Tryz.func10 (by kernel_rfl) (by kernel_rfl) fun us u hR => by
 obtain ⟨xs, hb, hn, rfl, hu⟩ := hR
 obtain ⟨r, hr⟩ : ∃ r, (cnt xs).toNat < r := ⟨_, Nat.lt_succ_self _⟩
 refine ⟨r, fun C E hC => ?_⟩
 have kQ := hC 34 ownQR (by simp)
 have hm := fun i (h0 : 0 ≤ i) (h1 : i < cnt xs) => nth_map (c := xs) tU h0 h1
 have hc := cnt_map xs tU
 have hc0 := cnt0 xs
 unfold cU at *
 generalize xs.map tU = cs at *
 clear hC
 cbv
 (repeat ((refine tt ?_); cbv))
 refine lets [0, 3, 4] ?_
 cbv
 refine loop_inv (fun j a h => ∃ q : Int, 0 ≤ q ∧ q ≤ cnt xs ∧ j = (cnt xs - q).toNat ∧ ((q = 0 ∧ a = [.s 7 cs, .lost, .lost, nilU, ui q, .lost, .lost, .lost, .lost, .lost, .lost, .lost, .lost, .lost, .lost, .lost, .lost, .lost, .lost, .lost, .lost, .lost, .lost, .lost, .lost] ∧ h = []) ∨ (∃ (d : Int) (row : Rows), 1 ≤ q ∧ d = cnt row ∧ q ≤ d ∧ row.take q.toNat = cs.take q.toNat ∧ a = [.s 7 cs, .lost, .lost, .sl 0 q d 7, ui q, .lost, .lost, .lost, .lost, .lost, .lost, .lost, .lost, .lost, .lost, .lost, .lost, .lost, .lost, .lost, .lost, .lost, .lost, .lost, .lost] ∧ h = [some (.row 7 row)]))) ?_ r (cnt xs).toNat _ _ (by omega) ⟨0, by omega, by omega, by omega, .inl ⟨rfl, rfl, rfl⟩⟩
 rintro j a h K ⟨q, q0, q1, hj, hI⟩ hK
 rcases Decidable.em (q < cnt xs) with hlt | hlt
 ·obtain ⟨t, ht, hy⟩ := hm q q0 hlt
  have hbt := hb t (List.mem_of_getElem? ht)
  have hnx := take_next q0 hy
  have htk := cnt_take (cs := cs) q0 (by omega)
  have kq := kQ _ _ ⟨t.q, hbt.1, hbt.2, rfl, rfl⟩
  obtain ⟨kd, ta, tb, m, s, l, dd⟩ := t
  have kq : C 34 [.agg [ub s, .l l, .l dd]] (.agg [ub s, .l l, .l dd]) := kq
  rcases hI with ⟨hq, rfl, rfl⟩ | ⟨d, row, hq, hd, hqd, hrow, rfl, rfl⟩
  ·cbv
   (repeat ((first | with_reducible refine ln fun _ _ _ => ?_ | refine tt ?_); cbv))
   refine el ?_ (by omega) hy
   cbv
   (repeat ((refine cl ?_); cbv))
   refine sd ?_ (by unfold cnt; simp)
   intro nn cc zs e1 e2 e3
   have e1 : nn = q + 1 := by rw [hq]; exact e1
   have t1 : cc = cnt zs := by
    rw [e3]
    unfold cnt
    simp
    omega
   have t2 : zs.take (q + 1).toNat = cs.take (q + 1).toNat := by
    rw [hnx, hq, e3]
    rfl
   clear e3
   cbv
   (repeat (((with_reducible refine wr fun _ _ => ?_)); cbv))
   rename_i q' hq'
   refine letsA [0, 4] 3 1 ?_ (hj := by simp)
   exact hK (cnt xs - (q + 1)).toNat _ _ (by omega) ⟨q + 1, by omega, by omega, rfl, .inr ⟨cc, zs, by omega, t1, by omega, t2, by rw [hq', e1]; rfl, rfl⟩⟩
  ·cbv
   (repeat ((first | with_reducible refine ln fun _ _ _ => ?_ | refine tt ?_); cbv))
   refine el ?_ (by omega) hy
   cbv
   (repeat ((refine cl ?_); cbv))
   refine sd ?_ ⟨by unfold cnt; simp, by unfold cnt; simp, by omega, hd⟩
   intro nn e1
   have e1 : nn = q + 1 := e1
   refine ⟨fun zs e2 e3 => ?_, fun cc zs e2 e3 e4 => ?_⟩
   ·have t1 : d = cnt zs := cnt_in (z := [ui kd, ui ta, ui tb, ui m, ub s, .l l, .l dd]) q0 hd (by omega) e3
    have t2 : zs.take (q + 1).toNat = cs.take (q + 1).toNat := by rw [hnx]; exact take_row htk.symm hrow e3
    clear e3
    cbv
    (repeat (((with_reducible refine wr fun _ _ => ?_)); cbv))
    rename_i q' hq'
    refine letsA [0, 4] 3 0 ?_ (hj := by simp)
    exact hK (cnt xs - (q + 1)).toNat _ _ (by omega) ⟨q + 1, by omega, by omega, rfl, .inr ⟨d, zs, by omega, t1, by omega, t2, by rw [hq', e1]; rfl, rfl⟩⟩
   ·have t1 : cc = cnt zs := cnt_new (z := [ui kd, ui ta, ui tb, ui m, ub s, .l l, .l dd]) q0 hd hqd (by omega) e4
    have t2 : zs.take (q + 1).toNat = cs.take (q + 1).toNat := by rw [hnx]; exact take_row htk.symm hrow e4
    clear e4
    cbv
    (repeat (((with_reducible refine wr fun _ _ => ?_)); cbv))
    rename_i q' hq'
    refine letsA [0, 4] 3 2 ?_ (hj := by simp)
    exact hK (cnt xs - (q + 1)).toNat _ _ (by omega) ⟨q + 1, by omega, by omega, rfl, .inr ⟨cc, zs, by omega, t1, by omega, t2, by rw [hq', e1]; rfl, rfl⟩⟩
 ·rcases hI with ⟨hq, rfl, rfl⟩ | ⟨d, row, hq, hd, hqd, hrow, rfl, rfl⟩
  ·have hxe : xs = [] := List.eq_nil_of_length_eq_zero (by unfold cnt at *; omega)
   rw [if_pos hxe] at hu
   clear hK hm
   cbv
   (repeat ((first | with_reducible refine ln fun _ _ _ => ?_ | refine ff ?_); cbv))
   exact hu.symm
  ·have hqx : q = cnt xs := by omega
   rw [if_neg (fun e => by rw [e] at hqx; have : cnt ([] : List Tm) = 0 := rfl; omega)] at hu
   have hcs : cs.take q.toNat = cs := List.take_of_length_le (by unfold cnt at *; omega)
   rw [hcs] at hrow
   clear hK hm
   cbv
   (repeat ((first | refine ln fun _ _ _ => ?_ | refine ff ?_ | refine sd ?_ | intro _ _); cbv))
   rename_i ys e
   rw [hu, e, hrow]) fun us u ⟨xs, h1, h2, h3, h4⟩ => by
 refine ⟨us, _, ⟨xs, h1, h2, h3, rfl⟩, eqs_refl _, ?_⟩
 rw [h4]
 split
 ·rename_i h
  rw [h]
  exact .inr ⟨rfl, 7, rfl⟩
 ·exact .inl rfl
theorem LR_lit {v : Int} (h : -128 ≤ v ∧ v ≤ 128) : LR (litT v).q := LR_ratOf (fits_int h)
theorem LR_none : LR none3 := ⟨Limbs.nil, Limbs.nil, by decide, by decide⟩
theorem in_app {c e : List Tm} {t : Tm} (h : ∀ u ∈ e, u ∈ c ∨ LR u.q) (ht : LR t.q) : ∀ u ∈ e ++ [t], u ∈ c ∨ LR u.q := fun u hu => by
 rcases List.mem_append.1 hu with hu | hu
 ·exact h u hu
 ·rw [List.mem_singleton.1 hu]
  exact .inr ht
theorem term_LB {l : List Bool} {d : List Int} {c : List Tm} {bad : Bool} {t : Tm} {i : Int} (hok : termOk t i = true) : ∀ u ∈ (termS l d c bad t).1, u ∈ c ∨ LR u.q := by
 have hn : t.k = 8 → -128 ≤ t.n ∧ t.n ≤ 128 := fun h => by
  rcases term_cases hok with g | ⟨g, _⟩ | ⟨g, _⟩ | ⟨g, _⟩ | ⟨_, _, g⟩
  ·omega
  ·omega
  ·omega
  ·omega
  ·exact g
 have h0 := LR_none
 have h1 : LR (litT 1).q := LR_lit (by omega)
 have h2 : t.k = 8 → LR (litT t.n).q := fun h => LR_lit (hn h)
 unfold termS productS quotientS raisedS sumS
 repeat' split
 all_goals
  repeat' (first | exact fun u h => .inl h | exact h0 | exact h1 | exact h2 (by assumption) | refine in_app ?_ ?_)
theorem der_LB {P : R3 → Prop} (hP : ∀ q, LR q → P q) {c : List Tm} {l nd : List Bool} {m : Nat} (hg : goodC c = true) (hq : ∀ t ∈ c, P t.q) : ∀ q, ∀ u ∈ (derN c l nd m q).1, P u.q
 | 0, u, hu => hq u (List.mem_of_mem_take hu)
 | q + 1, u, hu => by
  unfold derN at hu
  split at hu
  ·split at hu
   ·rename_i t ht
    rcases term_LB (goodC_iff.1 hg q t ht) u hu with h | h
    ·exact der_LB hP hg hq q u h
    ·exact hP _ h
   ·exact der_LB hP hg hq q u hu
  ·exact der_LB hP hg hq q u hu
def diffOfR' (us : List U) (u : U) : Prop := ∃ c i s x, (∀ t ∈ c, LB t.q) ∧ cnt c ≤ 1000 ∧ nilEq x (cU c) ∧ us = [x, ui i, ui s] ∧ u = derU (derS c i s)
theorem diffOf_ok' : SoundF Tryz.prog 11 diffOfR' := relax diffOf_ok fun us u ⟨c, i, s, x, h1, h2, h3, h4, h5⟩ => ⟨_, u, ⟨c, i, s, h1, h2, rfl, h5⟩, by rw [h4]; exact ⟨h3, .inl rfl, .inl rfl, trivial⟩, .inl rfl⟩
theorem v1 : (derS quotC 4 1).2 = (9, 0) ∧ cnt (derS quotC 4 1).1 = 10 := by decide +kernel
theorem v2 : (derS quotC 4 2).2.2 = 0 ∧ cnt (derS quotC 4 2).1 = 6 := by decide +kernel
theorem v3 : ofS (derS quotC 4 1).1 9 [ratOf 3, ratOf 2] = to4 (ratOf (-3 / 4)) := by decide +kernel
theorem v4 : ofS (derS quotC 4 2).1 (derS quotC 4 2).2.1 [ratOf 3, ratOf 2] = to4 (ratOf 0) := by decide +kernel
theorem v5 : (derS [] 0 0).2 = (0, 1) := by decide +kernel
theorem v6 : mayC quotC 4 = true ∧ leanN quotC 1 quotC.length = [false, true, true, false, true] := by decide +kernel
theorem quot_good : goodC quotC = true := by decide +kernel
theorem derS_LB {P : R3 → Prop} (hP : ∀ q, LR q → P q) {c : List Tm} {i s : Int} (hg : goodC c = true) (hq : ∀ t ∈ c, P t.q) : ∀ u ∈ (derS c i s).1, P u.q := fun u hu => by
 unfold derS derAll at hu
 split at hu
 ·split at hu
  ·split at hu
   ·cases hu
   ·exact der_LB hP hg hq _ u hu
  ·split at hu
   ·cases hu
   ·rcases List.mem_append.1 hu with hu | hu
    ·exact der_LB hP hg hq _ u hu
    ·rw [List.mem_singleton.1 hu]
     exact hP _ (LR_lit (by omega))
 ·cases hu
def yesR (us : List U) (u : U) : Prop := us = [] ∧ u = ub true
theorem wakes_ok : SoundF Tryz.prog 9 yesR := sound [(26, byR), (33, quotR), (22, ofR'), (11, diffOfR'), (15, leansR), (24, keepR), (14, keepBoolsR)] (orc_cons by_ok (orc_cons quot_ok (orc_cons of_ok' (orc_cons diffOf_ok' (orc_cons leans_ok (orc_cons keep_ok (orc_cons keepBools_ok orc_nil))))))) Tryz.func9 (by kernel_rfl) (by kernel_rfl) fun us u hR => ⟨0, fun C E hC => by
 obtain ⟨rfl, hu⟩ := hR
 have kb := hC 26 byR (by simp)
 obtain ⟨s3, l3, d3, b3, e3⟩ := by_q kb 3 1 3 (by decide) (by decide +kernel) (by decide +kernel)
 obtain ⟨s2, l2, d2, b2, e2⟩ := by_q kb 2 1 2 (by decide) (by decide +kernel) (by decide +kernel)
 obtain ⟨s0, l0, d0, b0, e0⟩ := by_q kb 0 1 0 (by decide) (by decide +kernel) (by decide +kernel)
 obtain ⟨sh, lh, dh, bh, eh⟩ := by_q kb (-3) 4 (-3 / 4) (by decide) (by decide +kernel) (by decide +kernel)
 have kq := hC 33 quotR (by simp) _ _ ⟨rfl, rfl⟩
 have L3 : LB (s3, l3, d3) := e3 ▸ LB_q (by decide +kernel)
 have L2 : LB (s2, l2, d2) := e2 ▸ LB_q (by decide +kernel)
 have L32 : ∀ a ∈ [(s3, l3, d3), (s2, l2, d2)], LB a := by simp [L3, L2]
 have c5 : cnt quotC ≤ 1000 := by decide
 have cc : cnt [(s3, l3, d3), (s2, l2, d2)] ≤ 1000000 := by unfold cnt; simp
 have o1 := hC 11 diffOfR' (by simp) _ _ ⟨quotC, 4, 1, _, quot_LB, c5, .inl rfl, rfl, rfl⟩
 have o2 := hC 11 diffOfR' (by simp) _ _ ⟨quotC, 4, 2, _, quot_LB, c5, .inl rfl, rfl, rfl⟩
 have o3 := hC 11 diffOfR' (by simp) _ _ ⟨[], 0, 0, nilU, by simp, by decide, .inr ⟨rfl, 7, rfl⟩, rfl, rfl⟩
 have v1' := v1.1
 have v1c := v1.2
 have p1 := hC 22 ofR' (by simp) _ _ ⟨(derS quotC 4 1).1, 9, [(s3, l3, d3), (s2, l2, d2)], _, derS_LB (fun _ h => h.wide) quot_good quot_LB, by rw [v1c]; omega, L32, cc, .inl rfl, rfl, rfl⟩
 have v2' := v2.1
 have v2c := v2.2
 have p2 := hC 22 ofR' (by simp) _ _ ⟨(derS quotC 4 2).1, (derS quotC 4 2).2.1, [(s3, l3, d3), (s2, l2, d2)], _, derS_LB (fun _ h => h.wide) quot_good quot_LB, by rw [v2c]; omega, L32, cc, .inl rfl, rfl, rfl⟩
 have q1 := hC 15 leansR (by simp) _ _ ⟨quotC, 4, 1, quot_LB, by omega, rfl, rfl⟩
 have r1 := hC 24 keepR (by simp) _ _ ⟨(sh, lh, dh), (sh, lh, dh), by rw [eh]; decide +kernel, by rw [eh]; decide +kernel, rfl, rfl⟩
 have r2 := hC 24 keepR (by simp) _ _ ⟨(s0, l0, d0), (s0, l0, d0), by rw [e0]; decide +kernel, by rw [e0]; decide +kernel, rfl, rfl⟩
 have r4 := hC 14 keepBoolsR (by simp) _ _ ⟨[false, true, true, false, true], [false, true, true, false, true], by decide, rfl, rfl⟩
 rw [decide_eq_true rfl] at r1 r2 r4
 rw [show ofS (derS quotC 4 1).1 9 [(s3, l3, d3), (s2, l2, d2)] = (sh, lh, dh, 0) by rw [e3, e2, v3, ← eh]; rfl] at p1
 rw [show ofS (derS quotC 4 2).1 (derS quotC 4 2).2.1 [(s3, l3, d3), (s2, l2, d2)] = (s0, l0, d0, 0) by rw [e3, e2, v4, ← e0]; rfl] at p2
 unfold leansU at q1
 rw [if_pos v6.1, v6.2] at q1
 have o1 : C 11 [cU quotC, ui 4, ui 1] (.tup [cU (derS quotC 4 1).1, ui 9, ui 0]) := by
  have e : derU (derS quotC 4 1) = .tup [cU (derS quotC 4 1).1, ui 9, ui 0] := by unfold derU; rw [v1']; rfl
  rw [← e]; exact o1
 have o2 : C 11 [cU quotC, ui 4, ui 2] (.tup [cU (derS quotC 4 2).1, ui (derS quotC 4 2).2.1, ui 0]) := by
  have e : derU (derS quotC 4 2) = .tup [cU (derS quotC 4 2).1, ui (derS quotC 4 2).2.1, ui 0] := by unfold derU; rw [v2', if_pos rfl]
  rw [← e]; exact o2
 have o3 : C 11 [nilU, ui 0, ui 0] (.tup [nilU, ui 0, ui 1]) := by
  have e : derU (derS [] 0 0) = .tup [nilU, ui 0, ui 1] := by unfold derU; rw [v5]; rfl
  rw [← e]; exact o3
 have m1 := cnt_map (derS quotC 4 1).1 tU
 have m2 := cnt_map (derS quotC 4 2).1 tU
 rw [v1c] at m1
 rw [v2c] at m2
 unfold cU at o1 o2 p1 p2 kq q1
 obtain ⟨D1, hD1⟩ : ∃ D, (derS quotC 4 1).1.map tU = D := ⟨_, rfl⟩
 obtain ⟨D2, hD2⟩ : ∃ D, (derS quotC 4 2).1.map tU = D := ⟨_, rfl⟩
 obtain ⟨k2, hk2⟩ : ∃ k, (derS quotC 4 2).2.1 = k := ⟨_, rfl⟩
 obtain ⟨cs, hcs⟩ : ∃ cs, quotC.map tU = cs := ⟨_, rfl⟩
 rw [hD1] at o1 p1 m1
 rw [hD2, hk2] at o2 p2
 rw [hD2] at m2
 rw [hcs] at o1 o2 kq q1
 have p1 : C 22 [.s 7 D1, ui 9, .s 3 [[ub s3, .l l3, .l d3], [ub s2, .l l2, .l d2]]] (.tup [.agg [ub sh, .l lh, .l dh], ui 0]) := p1
 have p2 : C 22 [.s 7 D2, ui k2, .s 3 [[ub s3, .l l3, .l d3], [ub s2, .l l2, .l d2]]] (.tup [.agg [ub s0, .l l0, .l d0], ui 0]) := p2
 have q1 : C 15 [.s 7 cs, ui 4, ui 1] (.s 1 [[ub false], [ub true], [ub true], [ub false], [ub true]]) := q1
 have r1 : C 24 [.agg [ub sh, .l lh, .l dh], .agg [ub sh, .l lh, .l dh]] (ub true) := r1
 have r2 : C 24 [.agg [ub s0, .l l0, .l d0], .agg [ub s0, .l l0, .l d0]] (ub true) := r2
 have r4 : C 14 [.s 1 [[ub false], [ub true], [ub true], [ub false], [ub true]], .s 1 [[ub false], [ub true], [ub true], [ub false], [ub true]]] (ub true) := r4
 clear kb hC v1' v1c v2' v2c L3 L2 L32 c5 cc e3 e2 e0 eh hD1 hD2 hk2 hcs
 cbv; (repeat ((first | with_reducible refine ln fun _ _ _ => ?_ | refine tt ?_ | refine cl ?_); cbv)); exact hu.symm⟩
def keepCoreR' (us : List U) (u : U) : Prop := ∃ a x, (∀ t ∈ a, cnt t.q.2.1 ≤ 1000000 ∧ cnt t.q.2.2 ≤ 1000000) ∧ cnt a ≤ 1000000 ∧ nilEq x (cU a) ∧ us = [x, x] ∧ u = ub true
theorem keepCore_ok' : SoundF Tryz.prog 13 keepCoreR' := relax keepCore_ok fun us u ⟨a, x, h1, h2, h3, h4, h5⟩ => ⟨_, u, ⟨a, h1, h2, rfl, h5⟩, by rw [h4]; exact ⟨h3, h3, trivial⟩, .inl rfl⟩
def sameLR (us : List U) (u : U) : Prop := ∃ c i s, cnt c ≤ 1000000 ∧ us = [leansU c i s, leansU c i s] ∧ u = ub true
theorem sameL_ok : SoundF Tryz.prog 14 sameLR := relax keepBools_ok fun us u ⟨c, i, s, h1, h2, h3⟩ => by
 by_cases hm : mayC c i = true
 ·refine ⟨us, u, ⟨leanN c s c.length, leanN c s c.length, by rw [leanN_len]; exact h1, ?_, by rw [h3, decide_eq_true rfl]⟩, eqs_refl _, .inl rfl⟩
  rw [h2]
  unfold leansU
  rw [if_pos hm]
 ·refine ⟨[.s 1 (uB []), .s 1 (uB [])], u, ⟨[], [], by decide, rfl, by rw [h3, decide_eq_true rfl]⟩, ?_, .inl rfl⟩
  rw [h2]
  unfold leansU
  rw [if_neg hm]
  exact ⟨.inr ⟨rfl, 1, rfl⟩, .inr ⟨rfl, 1, rfl⟩, trivial⟩
theorem derS_small {c : List Tm} {i s : Int} (hc : cnt c ≤ 100) (hq : ∀ t ∈ c, cnt t.q.2.1 ≤ 1000000 ∧ cnt t.q.2.2 ≤ 1000000) : (∀ t ∈ (derS c i s).1, cnt t.q.2.1 ≤ 1000000 ∧ cnt t.q.2.2 ≤ 1000000) ∧ cnt (derS c i s).1 ≤ 1000000 := by
 by_cases hm : mayC c i = true
 ·have hm3 := hm
  unfold mayC at hm3
  simp only [Bool.and_eq_true, decide_eq_true_eq] at hm3
  refine ⟨derS_LB (P := fun q => cnt q.2.1 ≤ 1000000 ∧ cnt q.2.2 ≤ 1000000) (fun q h => by have h1 := h.lt; have h2 := h.lb; unfold cnt; omega) hm3.2 hq, ?_⟩
  have h1 := der_cnt c (leanN c s c.length) (needs c i.toNat) (i.toNat + 1) (i.toNat + 1)
  have h2 : cnt (derAll c i s).1 ≤ 1000 := by
   unfold derAll
   omega
  have h3 := cnt_app (derAll c i s).1 (litT 0)
  have h4 : cnt ([] : List Tm) = 0 := rfl
  unfold derS
  repeat' split
  all_goals (dsimp only; omega)
 ·unfold derS
  rw [if_neg (fun h => hm h.1)]
  exact ⟨fun t h => by simp at h, (by decide : cnt ([] : List Tm) ≤ 1000000)⟩
def tells21R (us : List U) (u : U) : Prop := ∃ c i s, (∀ t ∈ c, TmOk t) ∧ cnt c ≤ 9223372036854775807 ∧ -9223372036854775808 ≤ i ∧ i ≤ 9223372036854775807 ∧ -9223372036854775808 ≤ s ∧ s ≤ 9223372036854775807 ∧ us = [cU c, ui i, ui s] ∧ u = ub true
theorem tells21_ok : SoundF Tryz.prog 3 tells21R := sound [(8, largeCR), (9, yesR), (10, copyCR), (11, diffOfR), (12, of21R), (15, leansR), (16, leansR), (14, sameLR), (13, keepCoreR')] (orc_cons largeC_ok (orc_cons wakes_ok (orc_cons copyC_ok (orc_cons diffOf_ok (orc_cons of21_ok (orc_cons leans_ok (orc_cons leans21_ok (orc_cons sameL_ok (orc_cons keepCore_ok' orc_nil))))))))) Tryz.func3 (by kernel_rfl) (by kernel_rfl) fun us u hR => ⟨0, fun C E hC => by
 obtain ⟨c, i, s, hq, hn, i0, i1, s0, s1, rfl, hu⟩ := hR
 have hqL : ∀ t ∈ c, LB t.q := fun t h => (hq t h).q
 have kl := hC 8 largeCR (by simp) _ _ ⟨c, hn, rfl, rfl⟩
 have kw := hC 9 yesR (by simp) _ _ ⟨rfl, rfl⟩
 have hl4 := fun h => largeC_all (c := c) h
 generalize largeC c = b1 at *
 have hm := cnt_map c tU
 obtain ⟨cs, hcs⟩ : ∃ cs, cU c = .s 7 cs ∧ cnt cs = cnt c := ⟨_, rfl, hm⟩
 clear hm
 obtain ⟨hcs, hm⟩ := hcs
 rw [hcs] at kl ⊢
 cases b1
 case true =>
  clear hl4 hC
  cbv
  (repeat ((refine cl ?_); cbv))
  exact hu.symm
 rcases Decidable.em (100 < cnt c) with h | h
 ·clear hl4 hC
  cbv
  (repeat ((first | with_reducible refine ln fun _ _ _ => ?_ | refine tt ?_ | refine cl ?_); cbv))
  exact hu.symm
 have hb7 := (hl4 rfl).2
 obtain ⟨d1, d2⟩ := derS_small (i := i) (s := s) (by omega) hb7
 have o1 := hC 10 copyCR (by simp) _ _ ⟨c, hb7, by omega, rfl, rfl⟩
 have o2 := hC 11 diffOfR (by simp) _ _ ⟨c, i, s, hqL, by omega, rfl, rfl⟩
 have o3 := hC 12 of21R (by simp) _ _ ⟨c, i, s, hqL, by omega, rfl, rfl⟩
 have o4 := hC 15 leansR (by simp) _ _ ⟨c, i, s, hqL, by omega, rfl, rfl⟩
 have o5 := hC 16 leansR (by simp) _ _ ⟨c, i, s, hqL, by omega, rfl, rfl⟩
 have r1 := hC 14 sameLR (by simp) _ _ ⟨c, i, s, by omega, rfl, rfl⟩
 have r2 := hC 13 keepCoreR' (by simp) _ _ ⟨c, _, hb7, by omega, .inl rfl, rfl, rfl⟩
 have r3 := hC 13 keepCoreR' (by simp) _ _ ⟨(derS c i s).1, _, d1, d2, .inl rfl, rfl, rfl⟩
 have r4 := hC 13 keepCoreR' (by simp) _ _ ⟨[], nilU, fun t h => (by cases h), by decide, .inr ⟨rfl, 7, rfl⟩, rfl, rfl⟩
 rw [hcs] at o1 o2 o3 o4 o5 r2
 unfold derU at o2
 unfold gotU at o3
 obtain ⟨lu, hlu, hor⟩ : ∃ lu, leansU c i s = lu ∧ (lu = nilU ∨ ∃ nds, lu = .s 1 nds) := ⟨_, rfl, by
  unfold leansU
  split
  ·exact .inr ⟨_, rfl⟩
  ·exact .inl rfl⟩
 rw [hlu] at o4 o5 r1
 generalize derS c i s = D at *
 obtain ⟨D, k, e⟩ := D
 dsimp only at o2 o3 r3
 obtain ⟨ds, hds⟩ : ∃ ds, cU D = .s 7 ds := ⟨_, rfl⟩
 rw [hds] at o2 o3 r3
 clear hC hb7 hl4 hq hqL hlu hcs hds d1 d2
 rcases Decidable.em (e = 0) with he | he
 ·rw [if_pos he] at o2 o3
  rcases hor with rfl | ⟨nds, rfl⟩ <;> (cbv; (repeat ((first | with_reducible refine ln fun _ _ _ => ?_ | refine tt ?_ | refine ff ?_ | refine cl ?_); cbv)); exact hu.symm)
 ·rw [if_neg he] at o2 o3
  rcases hor with rfl | ⟨nds, rfl⟩ <;> (cbv; (repeat ((first | with_reducible refine ln fun _ _ _ => ?_ | refine tt ?_ | refine ff ?_ | refine cl ?_); cbv)); exact hu.symm)⟩
end Go.Proofs.YtjkcmnedolfkjaaGreat.Rd
end
