/- Part 6 of the proof. -/
import Derived.Test.YtheciiemknmnoaaGreatProg
import Derived.Laws.Tables
import Derived.Orders
import Derived.Below
import Derived.Deep.Draws
import Derived.Deep.AppendLies
import Derived.Maps.AppendAt
import Derived.OwnWalk
import Derived.Laws.BytesArg
import Derived.Laws.MakeOwn
import Derived.Laws.OwnMore
import Derived.Deep.OwnRows
import Derived.Tactics
import Derived.Lib.ConvBytes
import Derived.Laws.Slices
import Derived.WalkKit
import Derived.KernelRfl
import Derived.RowKit3
import Derived.Deep.LoopGhost
import Derived.Deep.QuietTactic
import Derived.BigQuiet
import Derived.WideLaws
import Derived.Deep.DeepCutAuto
import Derived.Deep.CutBlock
import Derived.Deep.RegionHeld3
import Derived.Laws.Rows
import Derived.Lib.AppendStr
import Derived.ArgAppend
import Derived.Laws.IdiomCopy
import Derived.RowKit
import Derived.OrdersHeld
import Derived.Laws.BitsLemmas
import Derived.Laws.Cells
import Derived.Great.BuildSlice
import Derived.Deep.Slices
import Derived.Laws.AppendOwn
import Derived.Laws.LoneSync
import Derived.LoopN
import Derived.Laws.StructEq
import Derived.Laws.Bits64b
import Derived.Laws.BitsAllLaws
import Derived.Test.YtheciiemknmnoaaGreatE5
set_option linter.unusedVariables false
set_option linter.unusedSimpArgs false
section
set_option linter.unusedVariables false
set_option linter.unusedSimpArgs false
set_option maxRecDepth 100000
set_option maxHeartbeats 4000000
namespace Go.Proofs.YtheciiemknmnoaaGreat.Rd
open Go Go.RowKit Go.Proofs.YtheciiemknmnoaaGreatW.PrintWords Go.Proofs.YtheciiemknmnoaaGreat.PL Go.Proofs.YtheciiemknmnoaaGreat.Num

theorem keepNR {a b : List Int} (h : cnt a ≤ 1000000) : steelyardkeep_Nat.R [.l a, .l b] (ub (decide (a = b))) := by obtain ⟨k, hk⟩ := (same_tells a b (by unfold cnt at h; omega)).rounds; exact ⟨k, _, _, _, rfl, hk, rfl⟩
def keepIR (us : List U) (u : U) : Prop := ∃ s1 l1 s2 l2, cnt l1 ≤ 1000000 ∧ us = [.agg [ub s1, .l l1], .agg [ub s2, .l l2]] ∧ u = ub (decide ((s1, l1) = (s2, l2)))
theorem keepI_ok : SoundF Tryz.prog 37 keepIR := sound [(38, steelyardkeep_Nat.R)] (orc_cons steelyardkeep_Nat.sound orc_nil) Tryz.func37 (by kernel_rfl) (by kernel_rfl) fun us u hR => ⟨0, fun C E hC => by
  obtain ⟨s1, l1, s2, l2, h, rfl, hu⟩ := hR
  have k := hC 38 steelyardkeep_Nat.R (by simp) _ _ (keepNR (b := l2) h)
  by_cases h1 : s1 = s2
  · rw [show decide ((s1, l1) = (s2, l2)) = decide (l1 = l2) by rw [decide_eq_decide]; simp [h1]] at hu
    generalize decide (l1 = l2) = t at *
    cases s1 <;> cases s2 <;> first | exact absurd h1 (by decide) | (cbv; (repeat ((first | refine ln fun _ _ _ => ?_ | refine tt ?_ | refine ff ?_ | refine wr fun _ _ => ?_ | refine wu fun _ _ => ?_ | refine rp fun _ _ _ => ?_ | refine cp fun _ => ?_ | with_reducible refine bq ?_ | refine cl ?_ | refine sd ?_ | intro _ _); cbv)); exact hu.symm)
  · rw [decide_eq_false (show ¬ (s1, l1) = (s2, l2) by simp [h1])] at hu
    cases s1 <;> cases s2 <;> first | exact absurd rfl h1 | (cbv; (repeat ((first | refine ln fun _ _ _ => ?_ | refine tt ?_ | refine ff ?_ | refine wr fun _ _ => ?_ | refine wu fun _ _ => ?_ | refine rp fun _ _ _ => ?_ | refine cp fun _ => ?_ | with_reducible refine bq ?_ | refine cl ?_ | refine sd ?_ | intro _ _); cbv)); exact hu.symm)⟩
def keepR (us : List U) (u : U) : Prop := ∃ a b : R3, cnt a.2.1 ≤ 1000000 ∧ cnt a.2.2 ≤ 1000000 ∧ us = [uR a, uR b] ∧ u = ub (decide (a = b))
theorem keep_ok : SoundF Tryz.prog 17 keepR := sound [(37, keepIR), (38, steelyardkeep_Nat.R)] (orc_cons keepI_ok (orc_cons steelyardkeep_Nat.sound orc_nil)) Tryz.func17 (by kernel_rfl) (by kernel_rfl) fun us u hR => ⟨0, fun C E hC => by
  obtain ⟨⟨s1, l1, b1⟩, ⟨s2, l2, b2⟩, h, h', rfl, hu⟩ := hR
  have k1 := hC 37 keepIR (by simp) _ _ ⟨s1, l1, s2, l2, h, rfl, rfl⟩
  have k2 := hC 38 steelyardkeep_Nat.R (by simp) _ _ (keepNR (b := b2) h')
  have e : decide ((s1, l1, b1) = (s2, l2, b2)) = (decide ((s1, l1) = (s2, l2)) && decide (b1 = b2)) := by rw [Bool.eq_iff_iff]; simp [and_assoc]
  rw [e] at hu
  clear e h h'
  generalize decide ((s1, l1) = (s2, l2)) = t1 at *
  generalize decide (b1 = b2) = t2 at *
  cases t1 <;> cases t2 <;> cbv <;> (repeat ((first | refine ln fun _ _ _ => ?_ | refine tt ?_ | refine ff ?_ | refine wr fun _ _ => ?_ | refine wu fun _ _ => ?_ | refine rp fun _ _ _ => ?_ | refine cp fun _ => ?_ | with_reducible refine bq ?_ | refine cl ?_ | refine sd ?_ | intro _ _); cbv)) <;> exact hu.symm⟩
end Go.Proofs.YtheciiemknmnoaaGreat.Rd
end
section
set_option linter.unusedVariables false
set_option linter.unusedSimpArgs false
set_option maxRecDepth 100000
set_option maxHeartbeats 4000000
namespace Go.Proofs.YtheciiemknmnoaaGreat.Rd
open Go Go.RowKit Go.Proofs.YtheciiemknmnoaaGreatW.PrintWords Go.Proofs.YtheciiemknmnoaaGreat.PL Go.Proofs.YtheciiemknmnoaaGreat.Num

theorem trim1R {l : List Int} (hl : Limbs l) (hs : cnt l ≤ 1000000) : steelyardref01_Trim.R [.l l] (.l (N (V l))) := by obtain ⟨k, hk⟩ := (trim1_tells hl (by unfold cnt at hs; omega)).rounds; exact ⟨k, _, _, rfl, hk, rfl⟩
theorem of2R {a b : List Int} (ha : Limbs a) (hb : Limbs b) (h1 : cnt a ≤ 1000000) (h2 : cnt b ≤ 1000000) : steelyardref02_Of.R [.l a, .l b] (.l (N (V a * V b))) := by obtain ⟨k, hk⟩ := (mul2_tells ha hb (by unfold cnt at h1; omega) (by unfold cnt at h2; omega)).rounds; exact ⟨k, _, _, _, rfl, hk, rfl⟩
theorem gcd3R {a b : List Int} (ha : Limbs a) (hb : Limbs b) (h1 : cnt a ≤ 1000000) (h2 : cnt b ≤ 1000000) : steelyardref03_Gcd.R [.l a, .l b] (.l (N (Nat.gcd (V a) (V b)))) := by obtain ⟨k, hk⟩ := (gcd3_tells ha hb (by unfold cnt at h1; omega) (by unfold cnt at h2; omega)).rounds; exact ⟨k, _, _, _, rfl, hk, rfl⟩
theorem rem3R {a b : List Int} (ha : Limbs a) (hb : Limbs b) (h1 : cnt a ≤ 1000000) (h2 : cnt b ≤ 1000000) (hz : V b ≠ 0) : steelyardref03_Rem.R [.l a, .l b] (.agg [.l (N (V a / V b)), .l (N (V a % V b)), ub true]) := by
  obtain ⟨k, hk⟩ := (rem3_tells ha hb (by unfold cnt at h1; omega) (by unfold cnt at h2; omega)).rounds
  rw [if_neg hz] at hk
  exact ⟨k, _, _, _, _, _, rfl, hk, rfl⟩
theorem of1R {r : Int} (h0 : 0 ≤ r) (h1 : r < 18446744073709551616) : steelyardref01_Of.R [.v (.int .u64 r)] (.l (N r.toNat)) := by obtain ⟨k, hk⟩ := (of1_tells h0 h1).rounds; exact ⟨k, _, _, rfl, hk, rfl⟩
def make6R (us : List U) (u : U) : Prop := ∃ s l, Limbs l ∧ cnt l ≤ 1000000 ∧ us = [ub s, .l l] ∧ u = uI (Z s l)
theorem make6_ok : SoundF Tryz.prog 69 make6R := sound [(81, steelyardref01_Trim.R)] (orc_cons steelyardref01_Trim.sound orc_nil) Tryz.func69 (by kernel_rfl) (by kernel_rfl) fun us u hR => ⟨0, fun C E hC => by
  obtain ⟨s, l, hl, hs, rfl, hu⟩ := hR
  rw [uI_Z] at hu
  obtain ⟨l', k1, el⟩ := tN (hC 81 steelyardref01_Trim.R (by simp) _ _ (trim1R hl hs))
  rw [← el] at hu
  clear el
  have g := cnt0 l'
  by_cases h0 : 0 < cnt l' <;> cases s <;> cbv <;> (repeat ((first | refine ln fun _ _ _ => ?_ | refine tt ?_ | refine ff ?_ | refine wr fun _ _ => ?_ | refine wu fun _ _ => ?_ | refine rp fun _ _ _ => ?_ | refine cp fun _ => ?_ | with_reducible refine bq ?_ | refine cl ?_ | refine sd ?_ | intro _ _); cbv)) <;> (rw [hu]; simp [h0])⟩
def trim6R (us : List U) (u : U) : Prop := ∃ s l, Limbs l ∧ cnt l ≤ 1000000 ∧ us = [.agg [ub s, .l l]] ∧ u = uI (Z s l)
theorem trim6_ok : SoundF Tryz.prog 116 trim6R := sound [(69, make6R)] (orc_cons make6_ok orc_nil) Tryz.func116 (by kernel_rfl) (by kernel_rfl) fun us u hR => ⟨0, fun C E hC => by
  obtain ⟨s, l, hl, hs, rfl, hu⟩ := hR
  obtain ⟨s1, l1, k1, e1, e2⟩ := tI (hC 69 make6R (by simp) _ _ ⟨s, l, hl, hs, rfl, rfl⟩)
  cbv
  (repeat ((first | refine ln fun _ _ _ => ?_ | refine tt ?_ | refine ff ?_ | refine wr fun _ _ => ?_ | refine wu fun _ _ => ?_ | refine rp fun _ _ _ => ?_ | refine cp fun _ => ?_ | with_reducible refine bq ?_ | refine cl ?_ | refine sd ?_ | intro _ _); cbv))
  rw [hu, e1, e2]; rfl⟩
def mul6R (us : List U) (u : U) : Prop := ∃ s1 l1 s2 l2, Limbs l1 ∧ Limbs l2 ∧ cnt l1 ≤ 100000 ∧ cnt l2 ≤ 100000 ∧ us = [.agg [ub s1, .l l1], .agg [ub s2, .l l2]] ∧ u = uI (Z s1 l1 * Z s2 l2)
theorem mul6_ok : SoundF Tryz.prog 98 mul6R := sound [(69, make6R), (116, trim6R), (99, steelyardref02_Of.R)] (orc_cons make6_ok (orc_cons trim6_ok (orc_cons steelyardref02_Of.sound orc_nil))) Tryz.func98 (by kernel_rfl) (by kernel_rfl) fun us u hR => ⟨0, fun C E hC => by
  obtain ⟨s1, l1, s2, l2, h1, h2, c1, c2, rfl, hu⟩ := hR
  obtain ⟨t1, m1, k1, e1, f1⟩ := tI (hC 116 trim6R (by simp) _ _ ⟨s1, l1, h1, by omega, rfl, rfl⟩)
  obtain ⟨t2, m2, k2, e2, f2⟩ := tI (hC 116 trim6R (by simp) _ _ ⟨s2, l2, h2, by omega, rfl, rfl⟩)
  have c3 := cnt_mul h1 h2
  have sm := sign_mul (Z s1 l1) (Z s2 l2)
  rw [← e1, ← e2, Z_abs, Z_abs] at sm
  have k3 := hC 99 steelyardref02_Of.R (by simp) _ _ (of2R h1 h2 (by omega) (by omega))
  have k4 := hC 69 make6R (by simp) _ _ ⟨t1 != t2, N (V l1 * V l2), N_limbs _, by omega, rfl, rfl⟩
  rw [sm, ← hu] at k4
  obtain ⟨s4, l4, hu'⟩ : ∃ s l, u = .agg [ub s, .l l] := ⟨_, _, hu⟩
  rw [hu'] at k4
  clear hu sm e1 e2 f1 f2 c3
  generalize N (V l1 * V l2) = l3 at *
  cases t1 <;> cases t2 <;> cbv <;> (repeat ((first | refine ln fun _ _ _ => ?_ | refine tt ?_ | refine ff ?_ | refine wr fun _ _ => ?_ | refine wu fun _ _ => ?_ | refine rp fun _ _ _ => ?_ | refine cp fun _ => ?_ | with_reducible refine bq ?_ | refine cl ?_ | refine sd ?_ | intro _ _); cbv)) <;> exact hu'.symm⟩
def of6R (us : List U) (u : U) : Prop := ∃ v : Int, -9223372036854775808 ≤ v ∧ v ≤ 9223372036854775807 ∧ us = [ui v] ∧ u = uI v
theorem of6_ok : SoundF Tryz.prog 70 of6R := sound [(69, make6R), (100, steelyardref01_Of.R)] (orc_cons make6_ok (orc_cons steelyardref01_Of.sound orc_nil)) Tryz.func70 (by kernel_rfl) (by kernel_rfl) fun us u hR => ⟨0, fun C E hC => by
  obtain ⟨v, h0, h1, rfl, hu⟩ := hR
  have hl : len v.natAbs ≤ 2 := len_le.2 (by omega)
  have k1 : ∀ r : Int, 0 ≤ r → (r = v ∨ r = -v) → C 100 [.v (.int .u64 r)] (.l (N v.natAbs)) := fun r g0 g1 => by
    have := hC 100 steelyardref01_Of.R (by simp) _ _ (of1R (r := r) (by omega) (by omega))
    rwa [show r.toNat = v.natAbs by omega] at this
  have k2 := hC 69 make6R (by simp) _ _ ⟨decide (v < 0), N v.natAbs, N_limbs _, by rw [cnt_N]; omega, rfl, rfl⟩
  rw [show Z (decide (v < 0)) (N v.natAbs) = v from Z_I v, ← hu] at k2
  obtain ⟨s4, l4, hu'⟩ : ∃ s l, u = .agg [ub s, .l l] := ⟨_, _, hu⟩
  rw [hu'] at k2
  generalize N v.natAbs = l at *
  by_cases h : v < 0
  · rw [decide_eq_true h] at k2
    cbv
    refine tt ?_
    cbv
    refine wr fun r1 q1 => ?_
    cbv
    refine wr fun r2 q2 => ?_
    cbv
    refine wu fun r3 q3 => ?_
    cbv
    refine wu fun r4 q4 => ?_
    cbv
    refine cl ?_ (k1 r4 (by omega) (by omega))
    cbv
    (repeat ((first | refine ln fun _ _ _ => ?_ | refine tt ?_ | refine ff ?_ | refine wr fun _ _ => ?_ | refine wu fun _ _ => ?_ | refine rp fun _ _ _ => ?_ | refine cp fun _ => ?_ | with_reducible refine bq ?_ | refine cl ?_ | refine sd ?_ | intro _ _); cbv))
    exact hu'.symm
  · rw [decide_eq_false h] at k2
    cbv
    refine ff ?_
    cbv
    refine wu fun r1 q1 => ?_
    cbv
    refine cl ?_ (k1 r1 (by omega) (by omega))
    cbv
    (repeat ((first | refine ln fun _ _ _ => ?_ | refine tt ?_ | refine ff ?_ | refine wr fun _ _ => ?_ | refine wu fun _ _ => ?_ | refine rp fun _ _ _ => ?_ | refine cp fun _ => ?_ | with_reducible refine bq ?_ | refine cl ?_ | refine sd ?_ | intro _ _); cbv))
    exact hu'.symm⟩
end Go.Proofs.YtheciiemknmnoaaGreat.Rd
end
section
set_option linter.unusedVariables false
set_option linter.unusedSimpArgs false
set_option maxRecDepth 100000
set_option maxHeartbeats 4000000
namespace Go.Proofs.YtheciiemknmnoaaGreat.Rd
open Go Go.RowKit Go.Proofs.YtheciiemknmnoaaGreatW.PrintWords Go.Proofs.YtheciiemknmnoaaGreat.PL Go.Proofs.YtheciiemknmnoaaGreat.Num

theorem limb1 {g : Nat} (h : len g = 1) : N g = [(g : Int)] := by
  obtain ⟨y, hy⟩ := List.length_eq_one_iff.1 (show (N g).length = 1 by rw [N_length]; exact h)
  have e : rd (N g) 0 = (g : Int) := by
    have h2 := rd_V (N_limbs g) 0
    have h3 := rd_nonneg (N_limbs g) ((0 : Nat) : Int)
    have h4 := len_le.1 (Nat.le_of_eq h)
    rw [V_N, Nat.pow_zero, Nat.div_one] at h2
    rw [Nat.pow_one] at h4
    rw [Nat.mod_eq_of_lt h4] at h2
    have : rd (N g) 0 = rd (N g) ((0 : Nat) : Int) := rfl
    omega
  rw [hy] at e ⊢
  rw [← e]; rfl
theorem good7_ok : SoundF Tryz.prog 44 goodR := sound [(71, steelyardref07_trimmed.R), (72, steelyardref03_Gcd.R)] (orc_cons steelyardref07_trimmed.sound (orc_cons steelyardref03_Gcd.sound orc_nil)) Tryz.func44 (by kernel_rfl) (by kernel_rfl) fun us u hR => ⟨0, fun C E hC => by
  obtain ⟨⟨s, l, b⟩, ⟨hl, hb, hsl, hsb⟩, rfl, hu⟩ := hR
  have hl : Limbs l := hl
  have hb : Limbs b := hb
  have k1 := hC 71 steelyardref07_trimmed.R (by simp) [.l l] _ ⟨_, _, rfl, trimmed7_tells hl hsl, rfl⟩
  have k2 := hC 71 steelyardref07_trimmed.R (by simp) [.l b] _ ⟨_, _, rfl, trimmed7_tells hb hsb, rfl⟩
  clear hsl hsb
  have g1 := cnt0 l
  have g2 := cnt0 b
  unfold goodB at hu
  dsimp only at hu
  have e1 : (decide (b.length ≠ 0)) = decide (cnt b ≠ 0) := by rw [decide_eq_decide]; unfold cnt; omega
  have e2 : (decide (b.length ≤ 64)) = decide (cnt b ≤ 64) := by rw [decide_eq_decide]; unfold cnt; omega
  have e3 : (decide (l.length ≤ 64)) = decide (cnt l ≤ 64) := by rw [decide_eq_decide]; unfold cnt; omega
  have e4 : (decide (l.length = 0)) = decide (cnt l = 0) := by rw [decide_eq_decide]; unfold cnt; omega
  rw [e1, e2, e3, e4] at hu
  clear e1 e2 e3 e4
  generalize decide (N (V l) = l) = t1 at *
  generalize decide (N (V b) = b) = t2 at *
  cases t1
  · cbv; (repeat ((first | refine ln fun _ _ _ => ?_ | refine tt ?_ | refine ff ?_ | refine wr fun _ _ => ?_ | refine wu fun _ _ => ?_ | refine rp fun _ _ _ => ?_ | refine cp fun _ => ?_ | with_reducible refine bq ?_ | refine cl ?_ | refine sd ?_ | intro _ _); cbv)); rw [hu]; rfl
  cases t2
  · cbv; (repeat ((first | refine ln fun _ _ _ => ?_ | refine tt ?_ | refine ff ?_ | refine wr fun _ _ => ?_ | refine wu fun _ _ => ?_ | refine rp fun _ _ _ => ?_ | refine cp fun _ => ?_ | with_reducible refine bq ?_ | refine cl ?_ | refine sd ?_ | intro _ _); cbv)); rw [hu]; rfl
  by_cases h3 : cnt b = 0
  · cbv; (repeat ((first | refine ln fun _ _ _ => ?_ | refine tt ?_ | refine ff ?_ | refine wr fun _ _ => ?_ | refine wu fun _ _ => ?_ | refine rp fun _ _ _ => ?_ | refine cp fun _ => ?_ | with_reducible refine bq ?_ | refine cl ?_ | refine sd ?_ | intro _ _); cbv)); rw [hu]; simp [h3]
  by_cases h4 : cnt b ≤ 64
  case neg => cases s <;> by_cases h6 : cnt l = 0 <;> by_cases h5 : cnt l ≤ 64 <;> cbv <;> (repeat ((first | refine ln fun _ _ _ => ?_ | refine tt ?_ | refine ff ?_ | refine wr fun _ _ => ?_ | refine wu fun _ _ => ?_ | refine rp fun _ _ _ => ?_ | refine cp fun _ => ?_ | with_reducible refine bq ?_ | refine cl ?_ | refine sd ?_ | intro _ _); cbv)) <;> (rw [hu]; simp [h4])
  by_cases h5 : cnt l ≤ 64
  case neg => cases s <;> cbv <;> (repeat ((first | refine ln fun _ _ _ => ?_ | refine tt ?_ | refine ff ?_ | refine wr fun _ _ => ?_ | refine wu fun _ _ => ?_ | refine rp fun _ _ _ => ?_ | refine cp fun _ => ?_ | with_reducible refine bq ?_ | refine cl ?_ | refine sd ?_ | intro _ _); cbv)) <;> (rw [hu]; simp [h5])
  have k3 := hC 72 steelyardref03_Gcd.R (by simp) _ _ (gcd3R hl hb (by omega) (by omega))
  obtain ⟨g, eg⟩ : ∃ g, g = Nat.gcd (V l) (V b) := ⟨_, rfl⟩
  rw [show decide (Nat.gcd (V l) (V b) = 1) = decide (g = 1) by rw [eg]] at hu
  rw [← eg] at k3
  clear eg
  by_cases h7 : len g = 1
  · have hc : cnt (N g) = 1 := by rw [cnt_N]; omega
    have hi : (N g)[(0 : Int).toNat]? = some (g : Int) := by rw [limb1 h7]; rfl
    generalize N g = l3 at *
    rw [show decide (g = 1) = decide ((g : Int) = 1) by rw [decide_eq_decide]; omega] at hu
    generalize (g : Int) = y at *
    clear h7
    cases s
    · by_cases hd : y = 1 <;> cbv <;> (repeat ((first | refine ln fun _ _ _ => ?_ | refine tt ?_ | refine ff ?_ | refine wr fun _ _ => ?_ | refine wu fun _ _ => ?_ | refine rp fun _ _ _ => ?_ | refine cp fun _ => ?_ | with_reducible refine bq ?_ | refine cl ?_ | refine sd ?_ | intro _ _); cbv)) <;> (refine ei ?_ (by omega) hi) <;> cbv <;> (repeat ((first | refine ln fun _ _ _ => ?_ | refine tt ?_ | refine ff ?_ | refine wr fun _ _ => ?_ | refine wu fun _ _ => ?_ | refine rp fun _ _ _ => ?_ | refine cp fun _ => ?_ | with_reducible refine bq ?_ | refine cl ?_ | refine sd ?_ | intro _ _); cbv)) <;> (rw [hu]; simp [h3, h4, h5, hd])
    · by_cases h6 : cnt l = 0
      · cbv; (repeat ((first | refine ln fun _ _ _ => ?_ | refine tt ?_ | refine ff ?_ | refine wr fun _ _ => ?_ | refine wu fun _ _ => ?_ | refine rp fun _ _ _ => ?_ | refine cp fun _ => ?_ | with_reducible refine bq ?_ | refine cl ?_ | refine sd ?_ | intro _ _); cbv)); rw [hu]; simp [h6]
      · by_cases hd : y = 1 <;> cbv <;> (repeat ((first | refine ln fun _ _ _ => ?_ | refine tt ?_ | refine ff ?_ | refine wr fun _ _ => ?_ | refine wu fun _ _ => ?_ | refine rp fun _ _ _ => ?_ | refine cp fun _ => ?_ | with_reducible refine bq ?_ | refine cl ?_ | refine sd ?_ | intro _ _); cbv)) <;> (refine ei ?_ (by omega) hi) <;> cbv <;> (repeat ((first | refine ln fun _ _ _ => ?_ | refine tt ?_ | refine ff ?_ | refine wr fun _ _ => ?_ | refine wu fun _ _ => ?_ | refine rp fun _ _ _ => ?_ | refine cp fun _ => ?_ | with_reducible refine bq ?_ | refine cl ?_ | refine sd ?_ | intro _ _); cbv)) <;> (rw [hu]; simp [h3, h4, h5, h6, hd])
  · have h8 : ¬ cnt (N g) = 1 := by rw [cnt_N]; omega
    have h9 : ¬ g = 1 := fun h => h7 (by rw [h]; decide +kernel)
    rw [decide_eq_false h9] at hu
    generalize N g = l3 at *
    clear h7 h9
    cases s
    · cbv; (repeat ((first | refine ln fun _ _ _ => ?_ | refine tt ?_ | refine ff ?_ | refine wr fun _ _ => ?_ | refine wu fun _ _ => ?_ | refine rp fun _ _ _ => ?_ | refine cp fun _ => ?_ | with_reducible refine bq ?_ | refine cl ?_ | refine sd ?_ | intro _ _); cbv)); rw [hu]; simp
    · by_cases h6 : cnt l = 0
      · cbv; (repeat ((first | refine ln fun _ _ _ => ?_ | refine tt ?_ | refine ff ?_ | refine wr fun _ _ => ?_ | refine wu fun _ _ => ?_ | refine rp fun _ _ _ => ?_ | refine cp fun _ => ?_ | with_reducible refine bq ?_ | refine cl ?_ | refine sd ?_ | intro _ _); cbv)); rw [hu]; simp [h6]
      · cbv; (repeat ((first | refine ln fun _ _ _ => ?_ | refine tt ?_ | refine ff ?_ | refine wr fun _ _ => ?_ | refine wu fun _ _ => ?_ | refine rp fun _ _ _ => ?_ | refine cp fun _ => ?_ | with_reducible refine bq ?_ | refine cl ?_ | refine sd ?_ | intro _ _); cbv)); rw [hu]; simp⟩
def u76 (a : R4) : U := .agg [ub a.1, .l a.2.1, .l a.2.2.1, ui a.2.2.2]
theorem u76_parts (a : R4) : ∃ s l b e, u76 a = .agg [ub s, .l l, .l b, ui e] ∧ (s, l, b, e) = a := ⟨_, _, _, _, rfl, rfl⟩
def wideR (us : List U) (u : U) : Prop := ∃ s l b, Limbs l ∧ Limbs b ∧ cnt l ≤ 500000 ∧ cnt b ≤ 500000 ∧ V b ≠ 0 ∧ us = [.agg [ub s, .l l], .l b] ∧ u = uR (ratOf (mkRat (Z s l) (V b)))
theorem wide_ok : SoundF Tryz.prog 97 wideR := sound [(116, trim6R), (69, make6R), (72, steelyardref03_Gcd.R), (101, steelyardref03_Rem.R)] (orc_cons trim6_ok (orc_cons make6_ok (orc_cons steelyardref03_Gcd.sound (orc_cons steelyardref03_Rem.sound orc_nil)))) Tryz.func97 (by kernel_rfl) (by kernel_rfl) fun us u hR => ⟨0, fun C E hC => by
  obtain ⟨s, l, b, hl, hb, c1, c2, hz, rfl, hu⟩ := hR
  obtain ⟨s1, l1, k1, e1, e2⟩ := tI (hC 116 trim6R (by simp) _ _ ⟨s, l, hl, by omega, rfl, rfl⟩)
  have b1 := lenV hl
  have b2 := lenV hb
  rw [← Z_abs s l] at b1
  generalize Z s l = z at *
  obtain ⟨p1, p2, p3⟩ := mk_parts z (V b) hz
  have hg : 0 < Nat.gcd z.natAbs (V b) := Nat.gcd_pos_of_pos_right _ (by omega)
  have hgb : len (Nat.gcd z.natAbs (V b)) ≤ len (V b) := len_mono (Nat.gcd_le_right _ (by omega))
  have k3 := hC 72 steelyardref03_Gcd.R (by simp) _ _ (gcd3R (a := l1) (e2 ▸ N_limbs _) hb (by rw [e2, cnt_N]; omega) (by omega))
  have v1 : V l1 = z.natAbs := by rw [e2, V_N]
  have q1 : cnt l1 = len z.natAbs := by rw [e2, cnt_N]
  rw [v1] at k3
  have k4 := hC 101 steelyardref03_Rem.R (by simp) _ _ (rem3R (a := l1) (e2 ▸ N_limbs _) (N_limbs (Nat.gcd z.natAbs (V b))) (by omega) (by rw [cnt_N]; omega) (by rw [V_N]; omega))
  have k5 := hC 101 steelyardref03_Rem.R (by simp) _ _ (rem3R hb (N_limbs (Nat.gcd z.natAbs (V b))) (by omega) (by rw [cnt_N]; omega) (by rw [V_N]; omega))
  rw [v1, V_N, ← p1] at k4
  rw [V_N, ← p2] at k5
  have hx : len (mkRat z (V b)).num.natAbs ≤ len z.natAbs := by rw [p1]; exact len_mono (Nat.div_le_self _ _)
  have k6 := hC 69 make6R (by simp) _ _ ⟨s1, N (mkRat z (V b)).num.natAbs, N_limbs _, by rw [cnt_N]; omega, rfl, rfl⟩
  rw [show Z s1 (N (mkRat z (V b)).num.natAbs) = (mkRat z (V b)).num by rw [e1, ← p3]; exact Z_I _] at k6
  obtain ⟨s7, l7, k6, i7, i8⟩ := tI k6
  have hu' : u = .agg [ub s7, .l l7, .l (N (mkRat z (V b)).den)] := by rw [hu, i7, i8]; rfl
  clear hu i7 i8 e1 e2 p1 p2 p3 hg hgb v1 b1 b2 q1 hb hl hz hx c1 c2
  generalize N (mkRat z (V b)).num.natAbs = l3 at *
  generalize N (mkRat z (V b)).den = l4 at *
  generalize N (Nat.gcd z.natAbs (V b)) = l6 at *
  generalize N (z.natAbs % Nat.gcd z.natAbs (V b)) = l8 at *
  generalize N (V b % Nat.gcd z.natAbs (V b)) = l9 at *
  cbv; (repeat ((first | refine ln fun _ _ _ => ?_ | refine tt ?_ | refine ff ?_ | refine wr fun _ _ => ?_ | refine wu fun _ _ => ?_ | refine rp fun _ _ _ => ?_ | refine cp fun _ => ?_ | with_reducible refine bq ?_ | refine cl ?_ | refine sd ?_ | intro _ _); cbv)); exact hu'.symm⟩
def limitR (us : List U) (u : U) : Prop := ∃ q, us = [uR (ratOf q)] ∧ u = u76 (lim q)
theorem limit_ok : SoundF Tryz.prog 67 limitR := sound [] orc_nil Tryz.func67 (by kernel_rfl) (by kernel_rfl) fun us u hR => ⟨0, fun C E hC => by
  obtain ⟨q, rfl, hu⟩ := hR
  have hu2 : u = if cnt (N q.num.natAbs) ≤ 64 ∧ cnt (N q.den) ≤ 64 then .agg [ub (decide (q.num < 0)), .l (N q.num.natAbs), .l (N q.den), ui 0] else .agg [ub false, .l [], .l [], ui 2] := by
    rw [hu, cnt_N, cnt_N]
    unfold lim fits
    by_cases h : len q.num.natAbs ≤ 64 ∧ len q.den ≤ 64
    · rw [if_pos (by simpa using h), if_pos (by omega)]; rfl
    · rw [if_neg (by simpa using h), if_neg (by omega)]; rfl
  clear hu
  unfold uR ratOf
  dsimp only
  generalize decide (q.num < 0) = s at *
  generalize N q.num.natAbs = l at *
  generalize N q.den = b at *
  by_cases h1 : cnt l ≤ 64
  · by_cases h2 : cnt b ≤ 64
    · rw [if_pos ⟨h1, h2⟩] at hu2
      cbv; (repeat ((first | refine ln fun _ _ _ => ?_ | refine tt ?_ | refine ff ?_ | refine wr fun _ _ => ?_ | refine wu fun _ _ => ?_ | refine rp fun _ _ _ => ?_ | refine cp fun _ => ?_ | with_reducible refine bq ?_ | refine cl ?_ | refine sd ?_ | intro _ _); cbv)); exact hu2.symm
    · rw [if_neg (by omega)] at hu2
      cbv; (repeat ((first | refine ln fun _ _ _ => ?_ | refine tt ?_ | refine ff ?_ | refine wr fun _ _ => ?_ | refine wu fun _ _ => ?_ | refine rp fun _ _ _ => ?_ | refine cp fun _ => ?_ | with_reducible refine bq ?_ | refine cl ?_ | refine sd ?_ | intro _ _); cbv)); exact hu2.symm
  · rw [if_neg (by omega)] at hu2
    cbv; (repeat ((first | refine ln fun _ _ _ => ?_ | refine tt ?_ | refine ff ?_ | refine wr fun _ _ => ?_ | refine wu fun _ _ => ?_ | refine rp fun _ _ _ => ?_ | refine cp fun _ => ?_ | with_reducible refine bq ?_ | refine cl ?_ | refine sd ?_ | intro _ _); cbv)); exact hu2.symm⟩
def timesR (us : List U) (u : U) : Prop := ∃ p s l b, fits p = true ∧ Limbs l ∧ Limbs b ∧ cnt l ≤ 64 ∧ cnt b ≤ 64 ∧ V b ≠ 0 ∧ us = [uR (ratOf p), .agg [ub s, .l l, .l b]] ∧ u = uR (ratOf (mkRat (p.num * Z s l) (p.den * V b)))
theorem times_ok : SoundF Tryz.prog 68 timesR := sound [(98, mul6R), (99, steelyardref02_Of.R), (97, wideR)] (orc_cons mul6_ok (orc_cons steelyardref02_Of.sound (orc_cons wide_ok orc_nil))) Tryz.func68 (by kernel_rfl) (by kernel_rfl) fun us u hR => ⟨0, fun C E hC => by
  obtain ⟨p, s, l, b, hp, hl, hb, c1, c2, hz, rfl, hu⟩ := hR
  obtain ⟨s1, l1, b1, e, f1, f2, f3, f4, f5, f6, f7, f8⟩ := rat_parts hp
  rw [e]
  have k1 := hC 98 mul6R (by simp) _ _ ⟨s1, l1, s, l, f1, hl, by omega, by omega, rfl, rfl⟩
  rw [f5] at k1
  have k2 := hC 99 steelyardref02_Of.R (by simp) _ _ (of2R f2 hb (by omega) (by omega))
  rw [f6] at k2
  have m1 := len_mulZ p.num (Z s l)
  have m2 := len_mul p.den (V b)
  obtain ⟨n1, n2⟩ := fits_len hp
  have n3 := lenV hl
  have n4 := lenV hb
  rw [Z_abs] at m1
  obtain ⟨s2, l2, k1, i1, i2⟩ := tI k1
  obtain ⟨l3, k2, i3⟩ := tN k2
  obtain ⟨s4, l4, b4, k3, i4⟩ := tR (hC 97 wideR (by simp) _ _ ⟨s2, l2, l3, i2 ▸ N_limbs _, i3 ▸ N_limbs _, by rw [i2, cnt_N]; omega, by rw [i3, cnt_N]; omega, by rw [i3, V_N]; exact Nat.mul_ne_zero p.den_nz hz, rfl, rfl⟩)
  rw [show Z s2 l2 = p.num * Z s l by rw [i1, i2]; exact Z_I _, show V l3 = p.den * V b by rw [i3, V_N]] at i4
  rw [← i4] at hu
  clear e i1 i2 i3 i4 m1 m2 n1 n2 n3 n4 f1 f2 f3 f4 f5 f6 f7 f8 hp hz
  cbv; (repeat ((first | refine ln fun _ _ _ => ?_ | refine tt ?_ | refine ff ?_ | refine wr fun _ _ => ?_ | refine wu fun _ _ => ?_ | refine rp fun _ _ _ => ?_ | refine cp fun _ => ?_ | with_reducible refine bq ?_ | refine cl ?_ | refine sd ?_ | intro _ _); cbv)); exact hu.symm⟩
def div7R (us : List U) (u : U) : Prop := ∃ a b : R3, LB a ∧ LB b ∧ us = [uR a, uR b] ∧ u = u76 (divS a b)
theorem div7_ok : SoundF Tryz.prog 42 div7R := sound [(44, goodR), (69, make6R), (68, timesR), (67, limitR)] (orc_cons good7_ok (orc_cons make6_ok (orc_cons times_ok (orc_cons limit_ok orc_nil)))) Tryz.func42 (by kernel_rfl) (by kernel_rfl) fun us u hR => ⟨0, fun C E hC => by
  obtain ⟨⟨s1, l1, b1⟩, ⟨s2, l2, b2⟩, ha, hb, rfl, hu⟩ := hR
  have k1 := hC 44 goodR (by simp) _ _ ⟨_, ha, rfl, rfl⟩
  have k2 := hC 44 goodR (by simp) _ _ ⟨_, hb, rfl, rfl⟩
  clear ha hb
  unfold divS at hu
  by_cases h1 : goodB (s1, l1, b1) = true
  case neg =>
    rw [Bool.eq_false_iff.2 h1] at k1 hu
    rw [Bool.false_and, if_neg (by simp), show u76 (bad 1) = .agg [ub false, .l [], .l [], ui 1] from rfl] at hu
    cbv; (repeat ((first | refine ln fun _ _ _ => ?_ | refine tt ?_ | refine ff ?_ | refine wr fun _ _ => ?_ | refine wu fun _ _ => ?_ | refine rp fun _ _ _ => ?_ | refine cp fun _ => ?_ | with_reducible refine bq ?_ | refine cl ?_ | refine sd ?_ | intro _ _); cbv)); exact hu.symm
  by_cases h2 : goodB (s2, l2, b2) = true
  case neg =>
    rw [h1] at k1
    rw [Bool.eq_false_iff.2 h2] at k2 hu
    rw [Bool.and_false, if_neg (by simp), show u76 (bad 1) = .agg [ub false, .l [], .l [], ui 1] from rfl] at hu
    cbv; (repeat ((first | refine ln fun _ _ _ => ?_ | refine tt ?_ | refine ff ?_ | refine wr fun _ _ => ?_ | refine wu fun _ _ => ?_ | refine rp fun _ _ _ => ?_ | refine cp fun _ => ?_ | with_reducible refine bq ?_ | refine cl ?_ | refine sd ?_ | intro _ _); cbv)); exact hu.symm
  rw [h1] at k1 hu
  rw [h2] at k2 hu
  rw [Bool.true_and, if_pos rfl] at hu
  obtain ⟨p, hp, e1, f1, f2, f3, f4, f5, f6, f7, f8⟩ := good_parts h1
  obtain ⟨q, hq, e2, g1, g2, g3, g4, g5, g6, g7, g8⟩ := good_parts h2
  rw [e1, e2] at hu
  obtain ⟨p', hp', ep⟩ := good_iff.1 h1
  have : p' = p := by rw [← qOf_ratOf p', ← ep, e1]
  subst this
  have el : cnt l2 = len q.num.natAbs := by
    obtain ⟨q', hq', eq⟩ := good_iff.1 h2
    have : q' = q := by rw [← qOf_ratOf q', ← eq, e2]
    subst this
    injection eq with _ eq
    injection eq with eq _
    rw [eq, cnt_N]
  have h0 : len q.num.natAbs = 0 ↔ q.num.natAbs = 0 := len_eq_zero
  by_cases hz : q = 0
  · have hn : q.num = 0 := Rat.num_eq_zero.2 hz
    rw [if_pos hz, show u76 (bad 3) = .agg [ub false, .l [], .l [], ui 3] from rfl] at hu
    have hl0 : cnt l2 = 0 := by omega
    clear el h0 hn e1 e2 f1 f2 f3 f4 f5 f6 f7 f8 g1 g2 g3 g4 g5 g6 g7 g8 hz h1 h2
    cbv; (repeat ((first | refine ln fun _ _ _ => ?_ | refine tt ?_ | refine ff ?_ | refine wr fun _ _ => ?_ | refine wu fun _ _ => ?_ | refine rp fun _ _ _ => ?_ | refine cp fun _ => ?_ | with_reducible refine bq ?_ | refine cl ?_ | refine sd ?_ | intro _ _); cbv)); exact hu.symm
  · have hn : q.num ≠ 0 := fun h => hz (Rat.num_eq_zero.1 h)
    have hl0 : ¬ cnt l2 = 0 := by omega
    rw [if_neg hz] at hu
    have k3 := hC 69 make6R (by simp) _ _ ⟨s2, b2, g2, by omega, rfl, rfl⟩
    have e3 : Z s2 b2 = if q.num < 0 then -(q.den : Int) else (q.den : Int) := by
      unfold Z
      rw [g6, g8]
      by_cases h : q.num < 0 <;> simp [h]
    rw [e3] at k3
    obtain ⟨s3, l3, k3, i1, i2⟩ := tI k3
    have ea : (if q.num < 0 then -(q.den : Int) else (q.den : Int)).natAbs = q.den := by split <;> omega
    rw [ea] at i2
    have hq2 := fits_len hq
    have k4 := hC 68 timesR (by simp) _ _ ⟨p', s3, l3, l2, hp', i2 ▸ N_limbs _, g1, by rw [i2, cnt_N]; omega, by omega, by omega, rfl, rfl⟩
    rw [← ep, show Z s3 l3 = (if q.num < 0 then -(q.den : Int) else (q.den : Int)) by rw [i1, i2]; have := Z_I (if q.num < 0 then -(q.den : Int) else (q.den : Int)); rw [I_1, I_2, ea] at this; exact this, g7, show mkRat (p'.num * (if q.num < 0 then -(q.den : Int) else (q.den : Int))) (p'.den * q.num.natAbs) = p' / q by
      rw [← div_mk p' q hn]
      congr 1
      split
      · rw [Int.mul_neg]
      · rfl] at k4
    have k5 := hC 67 limitR (by simp) _ _ ⟨p' / q, rfl, rfl⟩
    obtain ⟨s6, l6, b6, e6, hu', i6⟩ := u76_parts (lim (p' / q))
    rw [hu'] at k5 hu
    obtain ⟨s5, l5, b5, k4, i5⟩ := tR k4
    rw [← i5] at k5
    clear hu' i5 i6 el h0 hn e1 e2 f1 f2 f3 f4 f5 f6 f7 f8 g1 g2 g3 g4 g5 g6 g7 g8 hz h1 h2 e3 i1 i2 ea hq2 ep hp hp' hq
    cbv; (repeat ((first | refine ln fun _ _ _ => ?_ | refine tt ?_ | refine ff ?_ | refine wr fun _ _ => ?_ | refine wu fun _ _ => ?_ | refine rp fun _ _ _ => ?_ | refine cp fun _ => ?_ | with_reducible refine bq ?_ | refine cl ?_ | refine sd ?_ | intro _ _); cbv)); exact hu.symm⟩
def whole7R (us : List U) (u : U) : Prop := ∃ v : Int, -9223372036854775808 ≤ v ∧ v ≤ 9223372036854775807 ∧ us = [ui v] ∧ u = uR (ratOf (v : Rat))
theorem whole7_ok : SoundF Tryz.prog 43 whole7R := sound [(70, of6R)] (orc_cons of6_ok orc_nil) Tryz.func43 (by kernel_rfl) (by kernel_rfl) fun us u hR => ⟨0, fun C E hC => by
  obtain ⟨v, h0, h1, rfl, hu⟩ := hR
  obtain ⟨s, l, k1, e1, e2⟩ := tI (hC 70 of6R (by simp) _ _ ⟨v, h0, h1, rfl, rfl⟩)
  rw [ratOf_int, N_one] at hu
  cbv; (repeat ((first | refine ln fun _ _ _ => ?_ | refine tt ?_ | refine ff ?_ | refine wr fun _ _ => ?_ | refine wu fun _ _ => ?_ | refine rp fun _ _ _ => ?_ | refine cp fun _ => ?_ | with_reducible refine bq ?_ | refine cl ?_ | refine sd ?_ | intro _ _); cbv)); rw [hu, e1, e2]; rfl⟩
def byR (us : List U) (u : U) : Prop := ∃ a b : Int, -9223372036854775808 ≤ a ∧ a ≤ 9223372036854775807 ∧ 0 < b ∧ b ≤ 9223372036854775807 ∧ fits ((a : Rat) / (b : Rat)) = true ∧ us = [ui a, ui b] ∧ u = uR (ratOf ((a : Rat) / (b : Rat)))
theorem by_ok : SoundF Tryz.prog 24 byR := sound [(43, whole7R), (42, div7R)] (orc_cons whole7_ok (orc_cons div7_ok orc_nil)) Tryz.func24 (by kernel_rfl) (by kernel_rfl) fun us u hR => ⟨0, fun C E hC => by
  obtain ⟨a, b, h0, h1, h2, h3, hf, rfl, hu⟩ := hR
  have k1 := hC 43 whole7R (by simp) _ _ ⟨a, h0, h1, rfl, rfl⟩
  have k2 := hC 43 whole7R (by simp) _ _ ⟨b, by omega, h3, rfl, rfl⟩
  have fa : fits (a : Rat) = true := fits_int a (by omega)
  have fb : fits (b : Rat) = true := fits_int b (by omega)
  have hb : (b : Rat) ≠ 0 := by have : b ≠ 0 := by omega
                                exact_mod_cast this
  have k3 := hC 42 div7R (by simp) _ _ ⟨ratOf (a : Rat), ratOf (b : Rat), (LR_ratOf fa).wide, (LR_ratOf fb).wide, rfl, rfl⟩
  rw [divS_fits fa fb hb hf] at k3
  obtain ⟨s1, l1, b1, k1, i1⟩ := tR k1
  obtain ⟨s2, l2, b2, k2, i2⟩ := tR k2
  rw [← i1, ← i2] at k3
  rcases i3 : ratOf ((a : Rat) / (b : Rat)) with ⟨s3, l3, b3⟩
  rw [i3] at k3 hu
  clear i1 i2 i3 hf fa fb hb
  cbv; (repeat ((first | refine ln fun _ _ _ => ?_ | refine tt ?_ | refine ff ?_ | refine wr fun _ _ => ?_ | refine wu fun _ _ => ?_ | refine rp fun _ _ _ => ?_ | refine cp fun _ => ?_ | with_reducible refine bq ?_ | refine cl ?_ | refine sd ?_ | intro _ _); cbv)); exact hu.symm⟩
end Go.Proofs.YtheciiemknmnoaaGreat.Rd
end
section
set_option linter.unusedVariables false
set_option linter.unusedSimpArgs false
set_option maxRecDepth 100000
set_option maxHeartbeats 4000000
namespace Go.Proofs.YtheciiemknmnoaaGreat.Rd
open Go Go.RowKit Go.Proofs.YtheciiemknmnoaaGreatW.PrintWords Go.Proofs.YtheciiemknmnoaaGreat.PL Go.Proofs.YtheciiemknmnoaaGreat.Num

def quotC : List Tm := [⟨2, 0, 0, 0, none3⟩, ⟨2, 0, 0, 1, none3⟩, ⟨6, 0, 1, 0, none3⟩, ⟨1, 0, 0, 0, ratOf 1⟩, ⟨4, 2, 3, 0, none3⟩]
def quotR (us : List U) (u : U) : Prop := us = [] ∧ u = cU quotC
theorem by_q {C : Orc} (h : Told C 24 byR) (a b : Int) (q : Rat) (h0 : -9223372036854775808 ≤ a ∧ a ≤ 9223372036854775807 ∧ 0 < b ∧ b ≤ 9223372036854775807) (hq : (a : Rat) / (b : Rat) = q) (hf : fits q = true) : ∃ s l d, C 24 [ui a, ui b] (.agg [ub s, .l l, .l d]) ∧ (s, l, d) = ratOf q := by
  subst hq
  exact tR (h _ _ ⟨a, b, h0.1, h0.2.1, h0.2.2.1, h0.2.2.2, hf, rfl, rfl⟩)
theorem quot_ok : SoundF Tryz.prog 32 quotR := sound [(24, byR)] (orc_cons by_ok orc_nil) Tryz.func32 (by kernel_rfl) (by kernel_rfl) fun us u hR => ⟨0, fun C E hC => by
  obtain ⟨rfl, hu⟩ := hR
  obtain ⟨s, l, d, k1, e⟩ := by_q (hC 24 byR (by simp)) 1 1 1 (by decide) (by decide +kernel) (by decide +kernel)
  have hu : u = .s 7 [[ui 2, ui 0, ui 0, ui 0, ub false, .l [], .l []], [ui 2, ui 0, ui 0, ui 1, ub false, .l [], .l []], [ui 6, ui 0, ui 1, ui 0, ub false, .l [], .l []], [ui 1, ui 0, ui 0, ui 0, ub s, .l l, .l d], [ui 4, ui 2, ui 3, ui 0, ub false, .l [], .l []]] := by
    rw [hu]
    unfold cU quotC
    rw [← e]
    rfl
  clear e
  cbv; (repeat ((first | refine ln fun _ _ _ => ?_ | refine tt ?_ | refine ff ?_ | refine wr fun _ _ => ?_ | refine wu fun _ _ => ?_ | refine rp fun _ _ _ => ?_ | refine cp fun _ => ?_ | with_reducible refine bq ?_ | refine cl ?_ | refine sd ?_ | intro _ _); cbv)); exact hu.symm⟩
def ofR' (us : List U) (u : U) : Prop := ∃ c i xs x, (∀ t ∈ c, LB t.q) ∧ cnt c ≤ 1000000 ∧ (∀ a ∈ xs, LB a) ∧ cnt xs ≤ 1000000 ∧ nilEq x (qsU xs) ∧ us = [cU c, ui i, x] ∧ u = uR4 (ofS c i xs)
theorem of_ok' : SoundF Tryz.prog 13 ofR' := relax of_ok fun us u ⟨c, i, xs, x, h1, h2, h3, h4, h5, h6, h7⟩ => ⟨_, u, ⟨c, i, xs, h1, h2, h3, h4, rfl, h7⟩, by rw [h6]; exact ⟨.inl rfl, .inl rfl, h5, trivial⟩, .inl rfl⟩
theorem LB_q {q : Rat} (h : fits q = true) : LB (ratOf q) := (LR_ratOf h).wide
theorem quot_LB : ∀ t ∈ quotC, LB t.q := fun t h => by
  unfold quotC at h
  simp only [List.mem_cons, List.not_mem_nil, or_false] at h
  rcases h with rfl | rfl | rfl | rfl | rfl <;> first | exact LB_none | exact LB_q fits_one
theorem w1 : ofS quotC 4 [ratOf 3, ratOf 2] = to4 (ratOf (1 / 2)) := by decide +kernel
theorem w2 : ofS quotC 4 [ratOf 3, ratOf 0] = bad 3 := by decide +kernel
theorem w3 : ofS quotC 4 [ratOf 3] = bad 1 := by decide +kernel
theorem w4 : ofS quotC 3 [] = to4 (ratOf 1) := by decide +kernel
theorem w5 : ofS quotC 5 [ratOf 3, ratOf 2] = bad 1 := by decide +kernel
theorem w6 : divS' quotC 4 [ratOf 3, ratOf 2] = ([1], 0) := by decide +kernel
theorem w7 : mayC quotC 2 = true ∧ needs quotC 2 = [true, true, true, false, false] := by decide +kernel
def yesR (us : List U) (u : U) : Prop := us = [] ∧ u = ub true
theorem wakes_ok : SoundF Tryz.prog 10 yesR := sound [(24, byR), (32, quotR), (13, ofR'), (15, divR), (20, needsR), (17, keepR), (18, keepIntsR), (19, keepBoolsR)] (orc_cons by_ok (orc_cons quot_ok (orc_cons of_ok' (orc_cons div_ok (orc_cons needs_ok (orc_cons keep_ok (orc_cons keepInts_ok (orc_cons keepBools_ok orc_nil)))))))) Tryz.func10 (by kernel_rfl) (by kernel_rfl) fun us u hR => ⟨0, fun C E hC => by
  obtain ⟨rfl, hu⟩ := hR
  have kb := hC 24 byR (by simp)
  obtain ⟨s3, l3, d3, b3, e3⟩ := by_q kb 3 1 3 (by decide) (by decide +kernel) (by decide +kernel)
  obtain ⟨s2, l2, d2, b2, e2⟩ := by_q kb 2 1 2 (by decide) (by decide +kernel) (by decide +kernel)
  obtain ⟨s0, l0, d0, b0, e0⟩ := by_q kb 0 1 0 (by decide) (by decide +kernel) (by decide +kernel)
  obtain ⟨sh, lh, dh, bh, eh⟩ := by_q kb 1 2 (1 / 2) (by decide) (by decide +kernel) (by decide +kernel)
  obtain ⟨s1, l1, d1, b1, e1⟩ := by_q kb 1 1 1 (by decide) (by decide +kernel) (by decide +kernel)
  have kq := hC 32 quotR (by simp) _ _ ⟨rfl, rfl⟩
  have L3 : LB (s3, l3, d3) := e3 ▸ LB_q (by decide +kernel)
  have L2 : LB (s2, l2, d2) := e2 ▸ LB_q (by decide +kernel)
  have L0 : LB (s0, l0, d0) := e0 ▸ LB_q (by decide +kernel)
  have L32 : ∀ a ∈ [(s3, l3, d3), (s2, l2, d2)], LB a := by simp [L3, L2]
  have c5 : cnt quotC ≤ 1000000 := by decide
  have cc : ∀ a b : R3, cnt [a, b] ≤ 1000000 := fun _ _ => by unfold cnt; simp
  have c1 : ∀ a : R3, cnt [a] ≤ 1000000 := fun _ => by unfold cnt; simp
  have o1 := hC 13 ofR' (by simp) _ _ ⟨quotC, 4, [(s3, l3, d3), (s2, l2, d2)], _, quot_LB, c5, L32, cc _ _, .inl rfl, rfl, rfl⟩
  have o2 := hC 13 ofR' (by simp) _ _ ⟨quotC, 4, [(s3, l3, d3), (s0, l0, d0)], _, quot_LB, c5, by simp [L3, L0], cc _ _, .inl rfl, rfl, rfl⟩
  have o3 := hC 13 ofR' (by simp) _ _ ⟨quotC, 4, [(s3, l3, d3)], _, quot_LB, c5, by simp [L3], c1 _, .inl rfl, rfl, rfl⟩
  have o4 := hC 13 ofR' (by simp) _ _ ⟨quotC, 3, [], nilU, quot_LB, c5, by simp, by decide, .inr ⟨rfl, 3, rfl⟩, rfl, rfl⟩
  have o5 := hC 13 ofR' (by simp) _ _ ⟨quotC, 5, [(s3, l3, d3), (s2, l2, d2)], _, quot_LB, c5, L32, cc _ _, .inl rfl, rfl, rfl⟩
  have o6 := hC 15 divR (by simp) _ _ ⟨quotC, 4, [(s3, l3, d3), (s2, l2, d2)], quot_LB, c5, L32, cc _ _, rfl, rfl⟩
  have o7 := hC 20 needsR (by simp) _ _ ⟨quotC, 2, quot_LB, c5, rfl, rfl⟩
  rw [show ofS quotC 4 [(s3, l3, d3), (s2, l2, d2)] = (sh, lh, dh, 0) by rw [e3, e2, w1, ← eh]; rfl] at o1
  rw [show ofS quotC 4 [(s3, l3, d3), (s0, l0, d0)] = bad 3 by rw [e3, e0, w2]] at o2
  rw [show ofS quotC 4 [(s3, l3, d3)] = bad 1 by rw [e3, w3]] at o3
  rw [show ofS quotC 3 [] = (s1, l1, d1, 0) by rw [w4, ← e1]; rfl] at o4
  rw [show ofS quotC 5 [(s3, l3, d3), (s2, l2, d2)] = bad 1 by rw [e3, e2, w5]] at o5
  rw [show divS' quotC 4 [(s3, l3, d3), (s2, l2, d2)] = ([1], 0) by rw [e3, e2, w6]] at o6
  unfold needsU at o7
  rw [if_pos w7.1, show (2 : Int).toNat = 2 by rfl, w7.2] at o7
  have r1 := hC 17 keepR (by simp) _ _ ⟨(sh, lh, dh), (sh, lh, dh), by rw [eh]; decide +kernel, by rw [eh]; decide +kernel, rfl, rfl⟩
  have r2 := hC 17 keepR (by simp) _ _ ⟨(s1, l1, d1), (s1, l1, d1), by rw [e1]; decide +kernel, by rw [e1]; decide +kernel, rfl, rfl⟩
  have r3 := hC 18 keepIntsR (by simp) _ _ ⟨[1], [1], by decide, rfl, rfl⟩
  have r4 := hC 19 keepBoolsR (by simp) _ _ ⟨[true, true, true, false, false], [true, true, true, false, false], by decide, rfl, rfl⟩
  rw [decide_eq_true rfl] at r1 r2 r3 r4
  obtain ⟨cs, hcs⟩ : ∃ cs, cU quotC = .s 7 cs := ⟨_, rfl⟩
  rw [hcs] at o1 o2 o3 o4 o5 o6 o7 kq
  have o1 : C 13 [.s 7 cs, ui 4, .s 3 [[ub s3, .l l3, .l d3], [ub s2, .l l2, .l d2]]] (.tup [.agg [ub sh, .l lh, .l dh], ui 0]) := o1
  have o2 : C 13 [.s 7 cs, ui 4, .s 3 [[ub s3, .l l3, .l d3], [ub s0, .l l0, .l d0]]] (.tup [.agg [ub false, .l [], .l []], ui 3]) := o2
  have o3 : C 13 [.s 7 cs, ui 4, .s 3 [[ub s3, .l l3, .l d3]]] (.tup [.agg [ub false, .l [], .l []], ui 1]) := o3
  have o4 : C 13 [.s 7 cs, ui 3, nilU] (.tup [.agg [ub s1, .l l1, .l d1], ui 0]) := o4
  have o5 : C 13 [.s 7 cs, ui 5, .s 3 [[ub s3, .l l3, .l d3], [ub s2, .l l2, .l d2]]] (.tup [.agg [ub false, .l [], .l []], ui 1]) := o5
  have o6 : C 15 [.s 7 cs, ui 4, .s 3 [[ub s3, .l l3, .l d3], [ub s2, .l l2, .l d2]]] (.tup [.s 1 [[ui 1]], ui 0]) := o6
  have o7 : C 20 [.s 7 cs, ui 2] (.s 1 [[ub true], [ub true], [ub true], [ub false], [ub false]]) := o7
  have r1 : C 17 [.agg [ub sh, .l lh, .l dh], .agg [ub sh, .l lh, .l dh]] (ub true) := r1
  have r2 : C 17 [.agg [ub s1, .l l1, .l d1], .agg [ub s1, .l l1, .l d1]] (ub true) := r2
  have r3 : C 18 [.s 1 [[ui 1]], .s 1 [[ui 1]]] (ub true) := r3
  have r4 : C 19 [.s 1 [[ub true], [ub true], [ub true], [ub false], [ub false]], .s 1 [[ub true], [ub true], [ub true], [ub false], [ub false]]] (ub true) := r4
  clear kb hC L3 L2 L0 L32 cc c1 c5 hcs e0 e1 e2 e3 eh
  cbv
  (repeat ((first | with_reducible refine ln fun _ _ _ => ?_ | refine tt ?_ | refine ff ?_ | with_reducible refine wr fun _ _ => ?_ | with_reducible refine wu fun _ _ => ?_ | refine rp fun _ _ _ => ?_ | refine cp fun _ => ?_ | with_reducible refine bq ?_ | refine cl ?_ | refine sd ?_); cbv))
  refine el (us := [ub s3, .l l3, .l d3]) ?_ (by decide) rfl
  cbv
  (repeat ((first | with_reducible refine ln fun _ _ _ => ?_ | refine tt ?_ | refine ff ?_ | with_reducible refine wr fun _ _ => ?_ | with_reducible refine wu fun _ _ => ?_ | refine rp fun _ _ _ => ?_ | refine cp fun _ => ?_ | with_reducible refine bq ?_ | refine cl ?_ | refine sd ?_); cbv))
  refine sd ?_ (by unfold cnt; simp)
  intro ys hys
  obtain rfl : ys = [[ub s3, .l l3, .l d3]] := hys
  cbv
  (repeat ((first | with_reducible refine ln fun _ _ _ => ?_ | refine tt ?_ | refine ff ?_ | with_reducible refine wr fun _ _ => ?_ | with_reducible refine wu fun _ _ => ?_ | refine rp fun _ _ _ => ?_ | refine cp fun _ => ?_ | with_reducible refine bq ?_ | refine cl ?_ | refine sd ?_); cbv))
  exact hu.symm⟩
end Go.Proofs.YtheciiemknmnoaaGreat.Rd
end
section
set_option linter.unusedVariables false
set_option linter.unusedSimpArgs false
set_option maxRecDepth 100000
set_option maxHeartbeats 4000000
namespace Go.Proofs.YtheciiemknmnoaaGreat.Rd
open Go Go.RowKit Go.Proofs.YtheciiemknmnoaaGreatW.PrintWords Go.Proofs.YtheciiemknmnoaaGreat.PL Go.Proofs.YtheciiemknmnoaaGreat.Num

def needsLR (us : List U) (u : U) : Prop := ∃ c k xs, (∀ t ∈ c, TmOk t) ∧ cnt c ≤ 9223372036854775807 ∧ 0 ≤ k ∧ k ≤ 255 ∧ (∀ a ∈ xs, LB a) ∧ cnt xs ≤ 9223372036854775807 ∧ us = [cU c, .v (.int .u8 k), qsU xs] ∧ u = ub true
theorem over_no {n : Int} {q : R3} (h : overQ n q = false) : cnt q.2.1 ≤ n ∧ cnt q.2.2 ≤ n := by
  unfold overQ at h
  simp only [Bool.or_eq_false_iff, decide_eq_false_iff_not] at h
  omega
theorem largeC_all {c : List Tm} (h : largeC c = false) : cnt c ≤ 400 ∧ ∀ t ∈ c, cnt t.q.2.1 ≤ 1000000 ∧ cnt t.q.2.2 ≤ 1000000 := by
  unfold largeC at h
  simp only [Bool.or_eq_false_iff, decide_eq_false_iff_not] at h
  refine ⟨by have := h.1.1; omega, fun t ht => ?_⟩
  have := List.any_eq_false.1 h.1.2 t ht
  have := over_no (by simpa using this)
  omega
theorem longL_all {xs : List R3} (h : longL xs = false) : cnt xs ≤ 100 ∧ ∀ t ∈ xs, cnt t.2.1 ≤ 1000000 ∧ cnt t.2.2 ≤ 1000000 := by
  unfold longL at h
  simp only [Bool.or_eq_false_iff, decide_eq_false_iff_not] at h
  have h100 : cnt xs ≤ 100 := by have := h.2; omega
  refine ⟨h100, fun t ht => ?_⟩
  rw [List.take_of_length_le (by unfold cnt at h100; omega)] at h
  have := List.any_eq_false.1 h.1 t ht
  have := over_no (by simpa using this)
  omega
theorem tmod_at {x n r : Int} (h0 : 0 ≤ x) (hn : 0 < n) (h : r = Int.tmod x n) : 0 ≤ r ∧ r < n := by
  rw [Int.tmod_eq_emod_of_nonneg h0] at h
  rw [h]
  exact ⟨Int.emod_nonneg _ (by omega), Int.emod_lt_of_pos _ hn⟩
theorem of_bad {c : List Tm} {i : Int} {xs : List R3} (h : madeB c i xs = false) : ofS c i xs = bad 1 := by unfold ofS; rw [h]; exact if_neg (by simp)
theorem swap_LB {c : List Tm} {nd : List Bool} (h : ∀ t ∈ c, LB t.q) : ∀ q, ∀ t ∈ swapTo c nd q, LB t.q
  | 0, t, ht => h t ht
  | q + 1, t, ht => by
    unfold swapTo at ht
    split at ht
    · exact swap_LB h q t ht
    · rcases List.mem_or_eq_of_mem_set ht with ht | ht
      · exact swap_LB h q t ht
      · rw [ht]
        exact (LR_ratOf (by decide +kernel)).wide
theorem swap_keep {c : List Tm} {nd : List Bool} {q : Int} (h0 : 0 ≤ q) (h : nd[q.toNat]? = some true) : swapTo c nd (q + 1).toNat = swapTo c nd q.toNat := by
  rw [show (q + 1).toNat = q.toNat + 1 by omega, swapTo, if_pos h]
theorem swap_set {c : List Tm} {nd : List Bool} {q : Int} (h0 : 0 ≤ q) (h : nd[q.toNat]? = some false) : swapTo c nd (q + 1).toNat = (swapTo c nd q.toNat).set q.toNat lit57 := by
  rw [show (q + 1).toNat = q.toNat + 1 by omega, swapTo, h, if_neg (by simp)]
theorem needsL_ok : SoundF Tryz.prog 4 needsLR := sound3 [(7, largeCR), (8, longLR), (9, tameR), (10, yesR), (13, ofR), (20, needsR), (24, byR), (17, keepR), (33, ownQR)] [(11, Tryz.f11), (12, Tryz.f12)] (orc_cons largeC_ok (orc_cons longL_ok (orc_cons tame_ok (orc_cons wakes_ok (orc_cons of_ok (orc_cons needs_ok (orc_cons by_ok (orc_cons keep_ok (orc_cons ownQ_ok orc_nil))))))))) (ents_cons Tryz.func11 (by kernel_rfl) (by kernel_rfl) (ents_cons Tryz.func12 (by kernel_rfl) (by kernel_rfl) ents_nil)) (nd_of (by simp)) Tryz.func4 (by kernel_rfl) (by kernel_rfl) fun us u hR => by
  obtain ⟨c, kk, xs, hq, hn, k0, k1, hx, hxn, rfl, hu⟩ := hR
  obtain ⟨r, hr⟩ : ∃ r, (cnt c).toNat + (cnt xs).toNat + 10 < r := ⟨_, Nat.lt_succ_self _⟩
  refine ⟨r, fun C E0 E1 E2 E hC hE0 hE1 hE2 => ?_⟩
  have hE2 : EnO r C E2 E := hE2
  have hqL : ∀ t ∈ c, LB t.q := fun t h => (hq t h).q
  have kl := hC 7 largeCR (by simp) _ _ ⟨c, hn, rfl, rfl⟩
  have kx := hC 8 longLR (by simp) _ _ ⟨xs, hxn, rfl, rfl⟩
  have kt := hC 9 tameR (by simp) _ _ ⟨c, xs, hn, hxn, rfl, rfl⟩
  have kw := hC 10 yesR (by simp) _ _ ⟨rfl, rfl⟩
  have hOf := hC 13 ofR (by simp)
  have hNe := hC 20 needsR (by simp)
  have hKe := hC 17 keepR (by simp)
  have hOw := hC 33 ownQR (by simp)
  obtain ⟨s57, l57, d57, b57, e57⟩ := by_q (hC 24 byR (by simp)) 5 7 (5 / 7) (by decide) (by decide +kernel) (by decide +kernel)
  obtain ⟨s12, l12, d12, b12, e12⟩ := by_q (hC 24 byR (by simp)) 1 2 (1 / 2) (by decide) (by decide +kernel) (by decide +kernel)
  have hm := cnt_map c tU
  have hc0 := cnt0 c
  have hx0 := cnt0 xs
  have hl4 := fun h => largeC_all (c := c) h
  have hl1 := fun h => longL_all (xs := xs) h
  clear hC hq hE0 hE1
  obtain ⟨cs, hcs⟩ : ∃ cs, cs = c.map tU := ⟨_, rfl⟩
  obtain ⟨ys, hys⟩ : ∃ ys, ys = xs.map qU := ⟨_, rfl⟩
  have ecU : cU c = .s 7 cs := by rw [hcs]; rfl
  have eqU : qsU xs = .s 3 ys := by rw [hys]; rfl
  rw [← hcs] at hm
  rw [ecU] at kl kt ⊢
  rw [eqU] at kx kt ⊢
  generalize largeC c = b1 at *
  generalize longL xs = b2 at *
  generalize tameB c xs = b3 at *
  cases b1
  case true =>
    clear hOf hNe hKe hOw hE2 hl4 hl1
    cbv
    (repeat ((first | with_reducible refine ln fun _ _ _ => ?_ | refine tt ?_ | refine ff ?_ | refine tt ?_ rfl | with_reducible refine wr fun _ _ => ?_ | with_reducible refine wu fun _ _ => ?_ | refine rp fun _ _ _ => ?_ | refine cp fun _ => ?_ | with_reducible refine bq ?_ | refine cl ?_ | refine sd ?_); cbv))
    exact hu.symm
  cases b2
  case true =>
    clear hOf hNe hKe hOw hE2 hl4 hl1
    cbv
    (repeat ((first | with_reducible refine ln fun _ _ _ => ?_ | refine tt ?_ | refine ff ?_ | refine tt ?_ rfl | with_reducible refine wr fun _ _ => ?_ | with_reducible refine wu fun _ _ => ?_ | refine rp fun _ _ _ => ?_ | refine cp fun _ => ?_ | with_reducible refine bq ?_ | refine cl ?_ | refine sd ?_); cbv))
    exact hu.symm
  cases b3
  case false =>
    clear hOf hNe hKe hOw hE2 hl4 hl1
    cbv
    (repeat ((first | with_reducible refine ln fun _ _ _ => ?_ | refine tt ?_ | refine ff ?_ | refine tt ?_ rfl | with_reducible refine wr fun _ _ => ?_ | with_reducible refine wu fun _ _ => ?_ | refine rp fun _ _ _ => ?_ | refine cp fun _ => ?_ | with_reducible refine bq ?_ | refine cl ?_ | refine sd ?_); cbv))
    exact hu.symm
  obtain ⟨hl4, hb7⟩ := hl4 rfl
  obtain ⟨hl1, hb3⟩ := hl1 rfl
  cbv
  rcases Decidable.em (cnt c = 0) with hz | hz
  · clear hOf hNe hKe hOw hE2 hb7 hb3
    (repeat ((first | with_reducible refine ln fun _ _ _ => ?_ | refine tt ?_ | refine ff ?_ | refine tt ?_ rfl | with_reducible refine wr fun _ _ => ?_ | with_reducible refine wu fun _ _ => ?_ | refine rp fun _ _ _ => ?_ | refine cp fun _ => ?_ | with_reducible refine bq ?_ | refine cl ?_ | refine sd ?_); cbv))
    exact hu.symm
  (repeat ((first | with_reducible refine ln fun _ _ _ => ?_ | refine tt ?_ | refine ff ?_ | refine tt ?_ rfl | with_reducible refine wr fun _ _ => ?_ | with_reducible refine wu fun _ _ => ?_ | refine rp fun _ _ _ => ?_ | refine cp fun _ => ?_ | with_reducible refine bq ?_ | refine cl ?_ | refine sd ?_); cbv))
  intro i hi
  rename_i x hx' n hn' hn''
  have hi := tmod_at (by omega) (by omega) hi
  have o1 := hOf _ _ ⟨c, i, xs, hqL, by omega, hx, by omega, rfl, rfl⟩
  have o2 := hNe _ _ ⟨c, i, hqL, by omega, rfl, rfl⟩
  have hLR := LR_of c i xs
  obtain ⟨s5, l5, d5, e5, o1, p5⟩ := tR4 o1
  rw [ecU, eqU] at o1
  rw [ecU] at o2
  unfold needsU at o2
  cases hmay : mayC c i
  · have hbad : ofS c i xs = bad 1 := of_bad (by unfold madeB; rw [hmay]; rfl)
    rw [hmay, if_neg (by simp)] at o2
    rw [hbad] at p5
    injection p5 with _ p5
    injection p5 with _ p5
    injection p5 with _ p5
    clear hOf hNe hKe hOw hE2 hb7 hb3 hLR
    subst p5
    cbv
    (repeat ((first | with_reducible refine ln fun _ _ _ => ?_ | refine tt ?_ | refine ff ?_ | refine tt ?_ rfl | with_reducible refine wr fun _ _ => ?_ | with_reducible refine wu fun _ _ => ?_ | refine rp fun _ _ _ => ?_ | refine cp fun _ => ?_ | with_reducible refine bq ?_ | refine cl ?_ | refine sd ?_); cbv))
    exact hu.symm
  rw [hmay, if_pos rfl] at o2
  have hnl := needs_len c i.toNat
  have hlike := like_swap (c := c) (nd := needs c i.toNat) (cnt_eq hnl)
  have hsame := fun h => needs_same (q := ratOf (1 / 2)) hlike (i := i) (xs := xs) h (good_ratOf (by decide +kernel))
  have hbad := fun h => of_bad (c := c) (i := i) (xs := xs) h
  generalize madeB c i xs = mb at *
  generalize needs c i.toNat = nd at *
  have hnx := fun j (h0 : 0 ≤ j) (h1 : j < cnt nd) => uB_nth (s := nd) h0 h1
  have hnc := uB_len nd
  generalize uB nd = nds at *
  have hown := fun k => ownC_in (k := k) hE2 hOw hb7 (by omega) (by omega) (fun e => by rw [e] at hz; exact hz rfl) (s0 := s5) (l0 := l5) (d0 := d5)
  rw [← hcs] at hown
  obtain ⟨Dr, hDr⟩ : ∃ Dr, Dr = (swapTo c nd c.length ++ [refK]).map tU := ⟨_, rfl⟩
  obtain ⟨Xr, hXr⟩ : ∃ Xr, Xr = ys ++ [[ub s12, .l l12, .l d12]] := ⟨_, rfl⟩
  have hys' := hys
  have hyc : cnt ys = cnt xs := by rw [hys]; exact cnt_map xs qU
  have hcD : cnt (swapTo c nd c.length ++ [refK]) ≤ 1000000 := by
    unfold cnt at *
    rw [List.length_append, swap_len, List.length_singleton]
    omega
  have o3 := hOf _ _ ⟨swapTo c nd c.length ++ [refK], i, xs ++ [ratOf (1 / 2)], fun t ht => by
      rcases List.mem_append.1 ht with ht | ht
      · exact swap_LB hqL _ t ht
      · rw [List.mem_singleton.1 ht]
        exact LB_none, hcD, fun t ht => by
      rcases List.mem_append.1 ht with ht | ht
      · exact hx t ht
      · rw [List.mem_singleton.1 ht]
        exact (LR_ratOf (by decide +kernel)).wide, by unfold cnt at *; rw [List.length_append, List.length_singleton]; omega, rfl, rfl⟩
  obtain ⟨s6, l6, d6, e6, o3, p6⟩ := tR4 o3
  have o3 : C 13 [.s 7 Dr, ui i, .s 3 Xr] (.tup [.agg [ub s6, .l l6, .l d6], ui e6]) := by
    rw [hDr, hXr, hys]
    have := o3
    unfold cU qsU at this
    rw [List.map_append (f := qU), ← e12] at this
    exact this
  have hfin : e5 = 1 ∨ (s6, l6, d6, e6) = (s5, l5, d5, e5) := by
    cases mb
    · rw [hbad rfl] at p5
      injection p5 with _ p5
      injection p5 with _ p5
      injection p5 with _ p5
      exact .inl p5
    · exact .inr (by rw [p6, hsame rfl, ← p5])
  rw [← p5] at hLR
  have hLR : LR (s5, l5, d5) := hLR
  have r1 := hKe _ _ ⟨(s5, l5, d5), (s5, l5, d5), by have := hLR.lt; unfold cnt; omega, by have := hLR.lb; unfold cnt; omega, rfl, rfl⟩
  rw [decide_eq_true rfl] at r1
  have r1 : C 17 [.agg [ub s5, .l l5, .l d5], .agg [ub s5, .l l5, .l d5]] (ub true) := r1
  have hox2 := fun rw1 k => ownX_in2 (rw1 := rw1) (k := k) hE2 hOw hb3 (by omega) (by omega) (s0 := s5) (l0 := l5) (d0 := d5)
  have hox3 := fun rw1 rw2 k => ownX_in3 (rw1 := rw1) (rw2 := rw2) (k := k) hE2 hOw hb3 (by omega) (by omega) (s0 := s5) (l0 := l5) (d0 := d5)
  rw [← hys] at hox2 hox3
  clear hOf hNe hKe hOw hE2 hsame hbad hLR hlike p5 p6 hb7 hb3 hqL hx kl kx kt
  cbv
  (repeat ((first | with_reducible refine ln fun _ _ _ => ?_ | refine tt ?_ | refine ff ?_ | refine tt ?_ rfl | with_reducible refine wr fun _ _ => ?_ | with_reducible refine wu fun _ _ => ?_ | refine rp fun _ _ _ => ?_ | refine cp fun _ => ?_ | with_reducible refine bq ?_ | refine cl ?_ | refine sd ?_); cbv))
  refine hown _ fun l d row e1 e2 e3 e4 => ?_
  clear hown
  cbv
  (repeat ((first | with_reducible refine ln fun _ _ _ => ?_ | refine tt ?_ | refine ff ?_ | refine tt ?_ rfl | with_reducible refine wr fun _ _ => ?_ | with_reducible refine wu fun _ _ => ?_ | refine rp fun _ _ _ => ?_ | refine cp fun _ => ?_ | with_reducible refine bq ?_ | refine cl ?_ | refine sd ?_); cbv))
  refine lets [2, 7, 8, 9, 10, 11, 12] ?_
  cbv
  refine loop_inv (fun j a h => ∃ (q : Int) (ro : Rows), 0 ≤ q ∧ q ≤ l ∧ j = (l - q).toNat ∧ cnt ro = d ∧ ro.take l.toNat = (swapTo c nd q.toNat).map tU ∧ a = [.lost, .lost, .s 3 ys, .lost, .lost, .lost, .lost, ui i, .ptr 0 0, ui e5, .s 1 nds, .sl 1 l d 7, ui q, .lost, .lost, .lost, .lost, .lost, .lost, .lost, .lost, .lost, .lost, .lost, .lost, .lost, .lost, .lost, .lost, .lost, .lost, .lost, .lost, .lost, .lost, .lost, .lost, .lost, .lost, .lost, .lost, .lost, .lost, .lost, .lost, .lost, .lost, .lost, .lost, .lost, .lost, .lost, .lost, .lost, .lost, .lost, .lost, .lost, .lost, .lost, .lost, .lost, .lost, .lost, .lost, .lost, .lost, .lost, .lost, .lost, .lost, .lost, .lost, .lost, .lost, .lost, .lost, .lost, .lost, .lost, .lost, .lost, .lost, .lost, .lost, .lost, .lost, .lost, .lost, .lost, .lost, .lost, .lost, .lost, .lost, .lost, .lost, .lost, .lost, .lost, .lost, .lost, .lost, .lost, .lost, .lost, .lost, .lost] ∧ h = [some (.cells [ub s5, .l l5, .l d5]), some (.row 7 ro)]) ?_ r l.toNat _ _ (by omega) ⟨0, row, by omega, by omega, by omega, e2.symm, by rw [e4, hcs]; rfl, rfl, rfl⟩
  rintro j a h K ⟨q, ro, q0, q1, hj, hro, hta, rfl, rfl⟩ hK
  rcases Decidable.em (q < l) with hlt | hlt
  · obtain ⟨b, hb, hz2⟩ := hnx q q0 (by omega)
    clear hox2 hox3
    cases b
    · have hsw := swap_set (c := c) q0 hb
      obtain ⟨tq, g1, g2⟩ := nth_map (c := swapTo c nd q.toNat) tU q0 (by unfold cnt; rw [swap_len]; unfold cnt at e1; omega)
      rw [← hta, List.getElem?_take, if_pos (by omega)] at g2
      obtain ⟨kd, ta, tb, tn, ts, tl, td⟩ := tq
      cbv
      (repeat ((first | with_reducible refine ln fun _ _ _ => ?_ | refine tt ?_ | refine ff ?_ | refine tt ?_ rfl | with_reducible refine wr fun _ _ => ?_ | with_reducible refine wu fun _ _ => ?_ | refine rp fun _ _ _ => ?_ | refine cp fun _ => ?_ | with_reducible refine bq ?_ | refine cl ?_ | refine sd ?_); cbv))
      refine el ?_ (by omega) hz2
      cbv
      (repeat ((first | with_reducible refine ln fun _ _ _ => ?_ | refine tt ?_ | refine ff ?_ | refine tt ?_ rfl | with_reducible refine wr fun _ _ => ?_ | with_reducible refine wu fun _ _ => ?_ | refine rp fun _ _ _ => ?_ | refine cp fun _ => ?_ | with_reducible refine bq ?_ | refine cl ?_ | refine sd ?_); cbv))
      refine el ?_ (by omega) g2
      cbv
      refine se fun zs e hyc2 => ?_
      have t1 : zs.take l.toNat = (swapTo c nd (q + 1).toNat).map tU := by
        rw [e, hsw, List.map_set, ← hta, List.take_set]
        unfold lit57
        rw [← e57]
        rfl
      have t2 : cnt zs = d := by rw [hyc2, hro]
      clear e hyc2
      cbv
      (repeat ((first | with_reducible refine ln fun _ _ _ => ?_ | refine tt ?_ | refine ff ?_ | refine tt ?_ rfl | with_reducible refine wr fun _ _ => ?_ | with_reducible refine wu fun _ _ => ?_ | refine rp fun _ _ _ => ?_ | refine cp fun _ => ?_ | with_reducible refine bq ?_ | refine cl ?_ | refine sd ?_); cbv))
      rename_i q' hq'
      refine lets [2, 7, 8, 9, 10, 11, 12] ?_
      exact hK (l - (q + 1)).toNat _ _ (by omega) ⟨q + 1, zs, by omega, by omega, rfl, t2, t1, by rw [hq']; rfl, rfl⟩
    · have hsw := swap_keep (c := c) q0 hb
      cbv
      (repeat ((first | with_reducible refine ln fun _ _ _ => ?_ | refine tt ?_ | refine ff ?_ | refine tt ?_ rfl | with_reducible refine wr fun _ _ => ?_ | with_reducible refine wu fun _ _ => ?_ | refine rp fun _ _ _ => ?_ | refine cp fun _ => ?_ | with_reducible refine bq ?_ | refine cl ?_ | refine sd ?_); cbv))
      refine el ?_ (by omega) hz2
      cbv
      (repeat ((first | with_reducible refine ln fun _ _ _ => ?_ | refine tt ?_ | refine ff ?_ | refine tt ?_ rfl | with_reducible refine wr fun _ _ => ?_ | with_reducible refine wu fun _ _ => ?_ | refine rp fun _ _ _ => ?_ | refine cp fun _ => ?_ | with_reducible refine bq ?_ | refine cl ?_ | refine sd ?_); cbv))
      rename_i q' hq'
      refine lets [2, 7, 8, 9, 10, 11, 12] ?_
      exact hK (l - (q + 1)).toNat _ _ (by omega) ⟨q + 1, ro, by omega, by omega, rfl, hro, by rw [hsw]; exact hta, by rw [hq']; rfl, rfl⟩
  · have hql : q.toNat = c.length := by unfold cnt at e1; omega
    rw [hql] at hta
    have hlc : l = cnt ((swapTo c nd c.length).map tU) := by unfold cnt at *; rw [List.length_map, swap_len]; exact e1
    have hDe : Dr = (swapTo c nd c.length).map tU ++ [[ui 2, ui 0, ui 0, ui 1000, ub false, .l [], .l []]] := by rw [hDr, List.map_append]; rfl
    clear hK hnx hys hcs
    cbv
    (repeat ((first | with_reducible refine ln fun _ _ _ => ?_ | refine tt ?_ | refine ff ?_ | refine tt ?_ rfl | with_reducible refine wr fun _ _ => ?_ | with_reducible refine wu fun _ _ => ?_ | refine rp fun _ _ _ => ?_ | refine cp fun _ => ?_ | with_reducible refine bq ?_ | refine cl ?_ | refine sd ?_); cbv))
    refine sd ?_ ⟨by unfold cnt; simp, by unfold cnt; simp, by omega, hro.symm⟩
    intro nn f1
    have f1 : nn = l + 1 := f1
    refine ⟨fun zs f2 f3 => ?_, fun cc zs f2 f3 f4 => ?_⟩
    · have t1 : d = cnt zs := cnt_in (by omega) hro.symm (by omega) f3
      have t2 : zs.take nn.toNat = Dr := by rw [f1, hDe]; exact take_row hlc hta f3
      clear f3 hox3
      have hox2 := hox2 zs
      cbv
      (repeat ((first | with_reducible refine ln fun _ _ _ => ?_ | refine tt ?_ | refine ff ?_ | refine tt ?_ rfl | with_reducible refine wr fun _ _ => ?_ | with_reducible refine wu fun _ _ => ?_ | refine rp fun _ _ _ => ?_ | refine cp fun _ => ?_ | with_reducible refine bq ?_ | refine cl ?_ | refine sd ?_); cbv))
      refine hox2 _ (fun hxe => ?_) (fun hxe l2 dd2 row2 g1 g2 g3 g4 => ?_)
      · have hX : Xr = [[ub s12, .l l12, .l d12]] := by rw [hXr, hys', hxe]; rfl
        clear hox2
        cbv
        (repeat ((first | with_reducible refine ln fun _ _ _ => ?_ | refine tt ?_ | refine ff ?_ | refine tt ?_ rfl | with_reducible refine wr fun _ _ => ?_ | with_reducible refine wu fun _ _ => ?_ | refine rp fun _ _ _ => ?_ | refine cp fun _ => ?_ | with_reducible refine bq ?_ | refine cl ?_ | refine sd ?_); cbv))
        refine sd ?_ (by unfold cnt; simp)
        intro n3 c3 z3 f4 f5 f6
        have f4 : n3 = 1 := f4
        have t4 : c3 = cnt z3 := by rw [f6]; unfold cnt; simp; omega
        have t5 : z3.take n3.toNat = Xr := by rw [f4, f6, hX]; rfl
        clear f6 hX
        cbv
        refine sd ?_ (by omega)
        intro w1 hw1
        obtain rfl : w1 = Dr := by rw [hw1]; exact t2
        cbv
        refine sd ?_ (by omega)
        intro w2 hw2
        obtain rfl : w2 = Xr := by rw [hw2]; exact t5
        cbv
        rcases hfin with hf | hf
        · subst hf
          (repeat ((first | with_reducible refine ln fun _ _ _ => ?_ | refine tt ?_ | refine ff ?_ | refine tt ?_ rfl | with_reducible refine wr fun _ _ => ?_ | with_reducible refine wu fun _ _ => ?_ | refine rp fun _ _ _ => ?_ | refine cp fun _ => ?_ | with_reducible refine bq ?_ | refine cl ?_ | refine sd ?_); cbv))
          exact hu.symm
        · injection hf with f1 f2
          injection f2 with f2 f3
          injection f3 with f3 f4
          subst f1 f2 f3 f4
          rcases Decidable.em (e6 = 1) with h1 | h1 <;> ((repeat ((first | with_reducible refine ln fun _ _ _ => ?_ | refine tt ?_ | refine ff ?_ | refine tt ?_ rfl | with_reducible refine wr fun _ _ => ?_ | with_reducible refine wu fun _ _ => ?_ | refine rp fun _ _ _ => ?_ | refine cp fun _ => ?_ | with_reducible refine bq ?_ | refine cl ?_ | refine sd ?_); cbv)); exact hu.symm)
      · clear hox2
        cbv
        (repeat ((first | with_reducible refine ln fun _ _ _ => ?_ | refine tt ?_ | refine ff ?_ | refine tt ?_ rfl | with_reducible refine wr fun _ _ => ?_ | with_reducible refine wu fun _ _ => ?_ | refine rp fun _ _ _ => ?_ | refine cp fun _ => ?_ | with_reducible refine bq ?_ | refine cl ?_ | refine sd ?_); cbv))
        refine sd ?_ ⟨by unfold cnt; simp, by unfold cnt; simp, by omega, g2⟩
        intro n3 f4
        have f4 : n3 = l2 + 1 := f4
        have hl2 : l2 = cnt ys := by rw [g1, hyc]
        refine ⟨fun z3 f5 f6 => ?_, fun c3 z3 f5 f6 f7 => ?_⟩
        · have t4 : dd2 = cnt z3 := cnt_in (by omega) g2 (by omega) f6
          have t5 : z3.take n3.toNat = Xr := by rw [f4, hXr]; exact take_row hl2 g4 f6
          clear f6 g4
          cbv
          refine sd ?_ (by omega)
          intro w1 hw1
          obtain rfl : w1 = Dr := by rw [hw1]; exact t2
          cbv
          refine sd ?_ (by omega)
          intro w2 hw2
          obtain rfl : w2 = Xr := by rw [hw2]; exact t5
          cbv
          rcases hfin with hf | hf
          · subst hf
            (repeat ((first | with_reducible refine ln fun _ _ _ => ?_ | refine tt ?_ | refine ff ?_ | refine tt ?_ rfl | with_reducible refine wr fun _ _ => ?_ | with_reducible refine wu fun _ _ => ?_ | refine rp fun _ _ _ => ?_ | refine cp fun _ => ?_ | with_reducible refine bq ?_ | refine cl ?_ | refine sd ?_); cbv))
            exact hu.symm
          · injection hf with f1 f2
            injection f2 with f2 f3
            injection f3 with f3 f4
            subst f1 f2 f3 f4
            rcases Decidable.em (e6 = 1) with h1 | h1 <;> ((repeat ((first | with_reducible refine ln fun _ _ _ => ?_ | refine tt ?_ | refine ff ?_ | refine tt ?_ rfl | with_reducible refine wr fun _ _ => ?_ | with_reducible refine wu fun _ _ => ?_ | refine rp fun _ _ _ => ?_ | refine cp fun _ => ?_ | with_reducible refine bq ?_ | refine cl ?_ | refine sd ?_); cbv)); exact hu.symm)
        · have t4 : c3 = cnt z3 := cnt_new (by omega) g2 g3 (by omega) f7
          have t5 : z3.take n3.toNat = Xr := by rw [f4, hXr]; exact take_row hl2 g4 f7
          clear f7 g4
          cbv
          refine sd ?_ (by omega)
          intro w1 hw1
          obtain rfl : w1 = Dr := by rw [hw1]; exact t2
          cbv
          refine sd ?_ (by omega)
          intro w2 hw2
          obtain rfl : w2 = Xr := by rw [hw2]; exact t5
          cbv
          rcases hfin with hf | hf
          · subst hf
            (repeat ((first | with_reducible refine ln fun _ _ _ => ?_ | refine tt ?_ | refine ff ?_ | refine tt ?_ rfl | with_reducible refine wr fun _ _ => ?_ | with_reducible refine wu fun _ _ => ?_ | refine rp fun _ _ _ => ?_ | refine cp fun _ => ?_ | with_reducible refine bq ?_ | refine cl ?_ | refine sd ?_); cbv))
            exact hu.symm
          · injection hf with f1 f2
            injection f2 with f2 f3
            injection f3 with f3 f4
            subst f1 f2 f3 f4
            rcases Decidable.em (e6 = 1) with h1 | h1 <;> ((repeat ((first | with_reducible refine ln fun _ _ _ => ?_ | refine tt ?_ | refine ff ?_ | refine tt ?_ rfl | with_reducible refine wr fun _ _ => ?_ | with_reducible refine wu fun _ _ => ?_ | refine rp fun _ _ _ => ?_ | refine cp fun _ => ?_ | with_reducible refine bq ?_ | refine cl ?_ | refine sd ?_); cbv)); exact hu.symm)
    · have t1 : cc = cnt zs := cnt_new (by omega) hro.symm e3 (by omega) f4
      have t2 : zs.take nn.toNat = Dr := by rw [f1, hDe]; exact take_row hlc hta f4
      clear f4 hox2
      have hox3 := hox3 ro zs
      cbv
      (repeat ((first | with_reducible refine ln fun _ _ _ => ?_ | refine tt ?_ | refine ff ?_ | refine tt ?_ rfl | with_reducible refine wr fun _ _ => ?_ | with_reducible refine wu fun _ _ => ?_ | refine rp fun _ _ _ => ?_ | refine cp fun _ => ?_ | with_reducible refine bq ?_ | refine cl ?_ | refine sd ?_); cbv))
      refine hox3 _ (fun hxe => ?_) (fun hxe l2 dd2 row2 g1 g2 g3 g4 => ?_)
      · have hX : Xr = [[ub s12, .l l12, .l d12]] := by rw [hXr, hys', hxe]; rfl
        clear hox3
        cbv
        (repeat ((first | with_reducible refine ln fun _ _ _ => ?_ | refine tt ?_ | refine ff ?_ | refine tt ?_ rfl | with_reducible refine wr fun _ _ => ?_ | with_reducible refine wu fun _ _ => ?_ | refine rp fun _ _ _ => ?_ | refine cp fun _ => ?_ | with_reducible refine bq ?_ | refine cl ?_ | refine sd ?_); cbv))
        refine sd ?_ (by unfold cnt; simp)
        intro n3 c3 z3 f4 f5 f6
        have f4 : n3 = 1 := f4
        have t4 : c3 = cnt z3 := by rw [f6]; unfold cnt; simp; omega
        have t5 : z3.take n3.toNat = Xr := by rw [f4, f6, hX]; rfl
        clear f6 hX
        cbv
        refine sd ?_ (by omega)
        intro w1 hw1
        obtain rfl : w1 = Dr := by rw [hw1]; exact t2
        cbv
        refine sd ?_ (by omega)
        intro w2 hw2
        obtain rfl : w2 = Xr := by rw [hw2]; exact t5
        cbv
        rcases hfin with hf | hf
        · subst hf
          (repeat ((first | with_reducible refine ln fun _ _ _ => ?_ | refine tt ?_ | refine ff ?_ | refine tt ?_ rfl | with_reducible refine wr fun _ _ => ?_ | with_reducible refine wu fun _ _ => ?_ | refine rp fun _ _ _ => ?_ | refine cp fun _ => ?_ | with_reducible refine bq ?_ | refine cl ?_ | refine sd ?_); cbv))
          exact hu.symm
        · injection hf with f1 f2
          injection f2 with f2 f3
          injection f3 with f3 f4
          subst f1 f2 f3 f4
          rcases Decidable.em (e6 = 1) with h1 | h1 <;> ((repeat ((first | with_reducible refine ln fun _ _ _ => ?_ | refine tt ?_ | refine ff ?_ | refine tt ?_ rfl | with_reducible refine wr fun _ _ => ?_ | with_reducible refine wu fun _ _ => ?_ | refine rp fun _ _ _ => ?_ | refine cp fun _ => ?_ | with_reducible refine bq ?_ | refine cl ?_ | refine sd ?_); cbv)); exact hu.symm)
      · clear hox3
        cbv
        (repeat ((first | with_reducible refine ln fun _ _ _ => ?_ | refine tt ?_ | refine ff ?_ | refine tt ?_ rfl | with_reducible refine wr fun _ _ => ?_ | with_reducible refine wu fun _ _ => ?_ | refine rp fun _ _ _ => ?_ | refine cp fun _ => ?_ | with_reducible refine bq ?_ | refine cl ?_ | refine sd ?_); cbv))
        refine sd ?_ ⟨by unfold cnt; simp, by unfold cnt; simp, by omega, g2⟩
        intro n3 f4
        have f4 : n3 = l2 + 1 := f4
        have hl2 : l2 = cnt ys := by rw [g1, hyc]
        refine ⟨fun z3 f5 f6 => ?_, fun c3 z3 f5 f6 f7 => ?_⟩
        · have t4 : dd2 = cnt z3 := cnt_in (by omega) g2 (by omega) f6
          have t5 : z3.take n3.toNat = Xr := by rw [f4, hXr]; exact take_row hl2 g4 f6
          clear f6 g4
          cbv
          refine sd ?_ (by omega)
          intro w1 hw1
          obtain rfl : w1 = Dr := by rw [hw1]; exact t2
          cbv
          refine sd ?_ (by omega)
          intro w2 hw2
          obtain rfl : w2 = Xr := by rw [hw2]; exact t5
          cbv
          rcases hfin with hf | hf
          · subst hf
            (repeat ((first | with_reducible refine ln fun _ _ _ => ?_ | refine tt ?_ | refine ff ?_ | refine tt ?_ rfl | with_reducible refine wr fun _ _ => ?_ | with_reducible refine wu fun _ _ => ?_ | refine rp fun _ _ _ => ?_ | refine cp fun _ => ?_ | with_reducible refine bq ?_ | refine cl ?_ | refine sd ?_); cbv))
            exact hu.symm
          · injection hf with f1 f2
            injection f2 with f2 f3
            injection f3 with f3 f4
            subst f1 f2 f3 f4
            rcases Decidable.em (e6 = 1) with h1 | h1 <;> ((repeat ((first | with_reducible refine ln fun _ _ _ => ?_ | refine tt ?_ | refine ff ?_ | refine tt ?_ rfl | with_reducible refine wr fun _ _ => ?_ | with_reducible refine wu fun _ _ => ?_ | refine rp fun _ _ _ => ?_ | refine cp fun _ => ?_ | with_reducible refine bq ?_ | refine cl ?_ | refine sd ?_); cbv)); exact hu.symm)
        · have t4 : c3 = cnt z3 := cnt_new (by omega) g2 g3 (by omega) f7
          have t5 : z3.take n3.toNat = Xr := by rw [f4, hXr]; exact take_row hl2 g4 f7
          clear f7 g4
          cbv
          refine sd ?_ (by omega)
          intro w1 hw1
          obtain rfl : w1 = Dr := by rw [hw1]; exact t2
          cbv
          refine sd ?_ (by omega)
          intro w2 hw2
          obtain rfl : w2 = Xr := by rw [hw2]; exact t5
          cbv
          rcases hfin with hf | hf
          · subst hf
            (repeat ((first | with_reducible refine ln fun _ _ _ => ?_ | refine tt ?_ | refine ff ?_ | refine tt ?_ rfl | with_reducible refine wr fun _ _ => ?_ | with_reducible refine wu fun _ _ => ?_ | refine rp fun _ _ _ => ?_ | refine cp fun _ => ?_ | with_reducible refine bq ?_ | refine cl ?_ | refine sd ?_); cbv))
            exact hu.symm
          · injection hf with f1 f2
            injection f2 with f2 f3
            injection f3 with f3 f4
            subst f1 f2 f3 f4
            rcases Decidable.em (e6 = 1) with h1 | h1 <;> ((repeat ((first | with_reducible refine ln fun _ _ _ => ?_ | refine tt ?_ | refine ff ?_ | refine tt ?_ rfl | with_reducible refine wr fun _ _ => ?_ | with_reducible refine wu fun _ _ => ?_ | refine rp fun _ _ _ => ?_ | refine cp fun _ => ?_ | with_reducible refine bq ?_ | refine cl ?_ | refine sd ?_); cbv)); exact hu.symm)
end Go.Proofs.YtheciiemknmnoaaGreat.Rd
end
