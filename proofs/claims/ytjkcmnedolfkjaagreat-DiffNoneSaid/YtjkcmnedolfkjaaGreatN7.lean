/- Part 7 of the proof. -/
import Derived.Test.YtjkcmnedolfkjaaGreatProg
import Derived.Laws.Tables
import Derived.Orders
import Derived.Below
import Derived.Deep.Draws
import Derived.Deep.AppendLies
import Derived.Maps.AppendAt
import Derived.OwnWalk
import Derived.Laws.BytesArg
import Derived.Laws.MakeOwn
import Derived.Laws.OwnMore
import Derived.Deep.OwnRows
import Derived.Tactics
import Derived.Lib.ConvBytes
import Derived.Laws.Slices
import Derived.WalkKit
import Derived.KernelRfl
import Derived.RowKit3
import Derived.Deep.LoopGhost
import Derived.Deep.QuietTactic
import Derived.BigQuiet
import Derived.WideLaws
import Derived.Deep.DeepCutAuto
import Derived.Deep.CutBlock
import Derived.Deep.RegionHeld3
import Derived.Laws.Rows
import Derived.Lib.AppendStr
import Derived.ArgAppend
import Derived.Laws.IdiomCopy
import Derived.RowKit
import Derived.OrdersHeld
import Derived.Laws.BitsLemmas
import Derived.Laws.Cells
import Derived.Great.BuildSlice
import Derived.Deep.Slices
import Derived.Laws.AppendOwn
import Derived.Laws.LoneSync
import Derived.LoopN
import Derived.Laws.StructEq
import Derived.Laws.Bits64b
import Derived.Laws.BitsAllLaws
import Derived.Conc.MuLone
import Derived.RegionTactic
import Derived.RegionCalls
import Derived.ChangeAlike
import Derived.Test.YtjkcmnedolfkjaaGreatN6
set_option linter.unusedVariables false
set_option linter.unusedSimpArgs false
section
set_option linter.unusedVariables false
set_option linter.unusedSimpArgs false
set_option maxRecDepth 100000
set_option maxHeartbeats 4000000
namespace Go.Proofs.YtjkcmnedolfkjaaGreat.Rd
open Go Go.RowKit Go.Proofs.YtjkcmnedolfkjaaGreatW.PrintWords Go.Proofs.YtjkcmnedolfkjaaGreat.PL Go.Proofs.YtjkcmnedolfkjaaGreat.Num

theorem limb1 {g : Nat} (h : len g = 1) : N g = [(g : Int)] := by
  obtain ⟨y, hy⟩ := List.length_eq_one_iff.1 (show (N g).length = 1 by rw [N_length]; exact h)
  have e : rd (N g) 0 = (g : Int) := by
    have h2 := rd_V (N_limbs g) 0
    have h3 := rd_nonneg (N_limbs g) ((0 : Nat) : Int)
    have h4 := len_le.1 (Nat.le_of_eq h)
    rw [V_N, Nat.pow_zero, Nat.div_one] at h2
    rw [Nat.pow_one] at h4
    rw [Nat.mod_eq_of_lt h4] at h2
    have : rd (N g) 0 = rd (N g) ((0 : Nat) : Int) := rfl
    omega
  rw [hy] at e ⊢
  rw [← e]; rfl
theorem good7_ok : SoundF Tryz.prog 46 goodR := sound [(80, steelyardref07_trimmed.R), (81, steelyardref03_Gcd.R)] (orc_cons steelyardref07_trimmed.sound (orc_cons steelyardref03_Gcd.sound orc_nil)) Tryz.func46 (by kernel_rfl) (by kernel_rfl) fun us u hR => ⟨0, fun C E hC => by
  obtain ⟨⟨s, l, b⟩, ⟨hl, hb, hsl, hsb⟩, rfl, hu⟩ := hR
  have hl : Limbs l := hl
  have hb : Limbs b := hb
  have k1 := hC 80 steelyardref07_trimmed.R (by simp) [.l l] _ ⟨_, _, rfl, trimmed7_tells hl hsl, rfl⟩
  have k2 := hC 80 steelyardref07_trimmed.R (by simp) [.l b] _ ⟨_, _, rfl, trimmed7_tells hb hsb, rfl⟩
  clear hsl hsb
  have g1 := cnt0 l
  have g2 := cnt0 b
  unfold goodB at hu
  dsimp only at hu
  have e1 : (decide (b.length ≠ 0)) = decide (cnt b ≠ 0) := by rw [decide_eq_decide]; unfold cnt; omega
  have e2 : (decide (b.length ≤ 64)) = decide (cnt b ≤ 64) := by rw [decide_eq_decide]; unfold cnt; omega
  have e3 : (decide (l.length ≤ 64)) = decide (cnt l ≤ 64) := by rw [decide_eq_decide]; unfold cnt; omega
  have e4 : (decide (l.length = 0)) = decide (cnt l = 0) := by rw [decide_eq_decide]; unfold cnt; omega
  rw [e1, e2, e3, e4] at hu
  clear e1 e2 e3 e4
  generalize decide (N (V l) = l) = t1 at *
  generalize decide (N (V b) = b) = t2 at *
  cases t1
  · cbv; (repeat ((first | refine ln fun _ _ _ => ?_ | refine tt ?_ | refine ff ?_ | refine wr fun _ _ => ?_ | refine wu fun _ _ => ?_ | refine rp fun _ _ _ => ?_ | refine cp fun _ => ?_ | with_reducible refine bq ?_ | refine cl ?_ | refine sd ?_ | intro _ _); cbv)); rw [hu]; rfl
  cases t2
  · cbv; (repeat ((first | refine ln fun _ _ _ => ?_ | refine tt ?_ | refine ff ?_ | refine wr fun _ _ => ?_ | refine wu fun _ _ => ?_ | refine rp fun _ _ _ => ?_ | refine cp fun _ => ?_ | with_reducible refine bq ?_ | refine cl ?_ | refine sd ?_ | intro _ _); cbv)); rw [hu]; rfl
  by_cases h3 : cnt b = 0
  · cbv; (repeat ((first | refine ln fun _ _ _ => ?_ | refine tt ?_ | refine ff ?_ | refine wr fun _ _ => ?_ | refine wu fun _ _ => ?_ | refine rp fun _ _ _ => ?_ | refine cp fun _ => ?_ | with_reducible refine bq ?_ | refine cl ?_ | refine sd ?_ | intro _ _); cbv)); rw [hu]; simp [h3]
  by_cases h4 : cnt b ≤ 64
  case neg => cases s <;> by_cases h6 : cnt l = 0 <;> by_cases h5 : cnt l ≤ 64 <;> cbv <;> (repeat ((first | refine ln fun _ _ _ => ?_ | refine tt ?_ | refine ff ?_ | refine wr fun _ _ => ?_ | refine wu fun _ _ => ?_ | refine rp fun _ _ _ => ?_ | refine cp fun _ => ?_ | with_reducible refine bq ?_ | refine cl ?_ | refine sd ?_ | intro _ _); cbv)) <;> (rw [hu]; simp [h4])
  by_cases h5 : cnt l ≤ 64
  case neg => cases s <;> cbv <;> (repeat ((first | refine ln fun _ _ _ => ?_ | refine tt ?_ | refine ff ?_ | refine wr fun _ _ => ?_ | refine wu fun _ _ => ?_ | refine rp fun _ _ _ => ?_ | refine cp fun _ => ?_ | with_reducible refine bq ?_ | refine cl ?_ | refine sd ?_ | intro _ _); cbv)) <;> (rw [hu]; simp [h5])
  have k3 := hC 81 steelyardref03_Gcd.R (by simp) _ _ (gcd3R hl hb (by omega) (by omega))
  obtain ⟨g, eg⟩ : ∃ g, g = Nat.gcd (V l) (V b) := ⟨_, rfl⟩
  rw [show decide (Nat.gcd (V l) (V b) = 1) = decide (g = 1) by rw [eg]] at hu
  rw [← eg] at k3
  clear eg
  by_cases h7 : len g = 1
  · have hc : cnt (N g) = 1 := by rw [cnt_N]; omega
    have hi : (N g)[(0 : Int).toNat]? = some (g : Int) := by rw [limb1 h7]; rfl
    generalize N g = l3 at *
    rw [show decide (g = 1) = decide ((g : Int) = 1) by rw [decide_eq_decide]; omega] at hu
    generalize (g : Int) = y at *
    clear h7
    cases s
    · by_cases hd : y = 1 <;> cbv <;> (repeat ((first | refine ln fun _ _ _ => ?_ | refine tt ?_ | refine ff ?_ | refine wr fun _ _ => ?_ | refine wu fun _ _ => ?_ | refine rp fun _ _ _ => ?_ | refine cp fun _ => ?_ | with_reducible refine bq ?_ | refine cl ?_ | refine sd ?_ | intro _ _); cbv)) <;> (refine ei ?_ (by omega) hi) <;> cbv <;> (repeat ((first | refine ln fun _ _ _ => ?_ | refine tt ?_ | refine ff ?_ | refine wr fun _ _ => ?_ | refine wu fun _ _ => ?_ | refine rp fun _ _ _ => ?_ | refine cp fun _ => ?_ | with_reducible refine bq ?_ | refine cl ?_ | refine sd ?_ | intro _ _); cbv)) <;> (rw [hu]; simp [h3, h4, h5, hd])
    · by_cases h6 : cnt l = 0
      · cbv; (repeat ((first | refine ln fun _ _ _ => ?_ | refine tt ?_ | refine ff ?_ | refine wr fun _ _ => ?_ | refine wu fun _ _ => ?_ | refine rp fun _ _ _ => ?_ | refine cp fun _ => ?_ | with_reducible refine bq ?_ | refine cl ?_ | refine sd ?_ | intro _ _); cbv)); rw [hu]; simp [h6]
      · by_cases hd : y = 1 <;> cbv <;> (repeat ((first | refine ln fun _ _ _ => ?_ | refine tt ?_ | refine ff ?_ | refine wr fun _ _ => ?_ | refine wu fun _ _ => ?_ | refine rp fun _ _ _ => ?_ | refine cp fun _ => ?_ | with_reducible refine bq ?_ | refine cl ?_ | refine sd ?_ | intro _ _); cbv)) <;> (refine ei ?_ (by omega) hi) <;> cbv <;> (repeat ((first | refine ln fun _ _ _ => ?_ | refine tt ?_ | refine ff ?_ | refine wr fun _ _ => ?_ | refine wu fun _ _ => ?_ | refine rp fun _ _ _ => ?_ | refine cp fun _ => ?_ | with_reducible refine bq ?_ | refine cl ?_ | refine sd ?_ | intro _ _); cbv)) <;> (rw [hu]; simp [h3, h4, h5, h6, hd])
  · have h8 : ¬ cnt (N g) = 1 := by rw [cnt_N]; omega
    have h9 : ¬ g = 1 := fun h => h7 (by rw [h]; decide +kernel)
    rw [decide_eq_false h9] at hu
    generalize N g = l3 at *
    clear h7 h9
    cases s
    · cbv; (repeat ((first | refine ln fun _ _ _ => ?_ | refine tt ?_ | refine ff ?_ | refine wr fun _ _ => ?_ | refine wu fun _ _ => ?_ | refine rp fun _ _ _ => ?_ | refine cp fun _ => ?_ | with_reducible refine bq ?_ | refine cl ?_ | refine sd ?_ | intro _ _); cbv)); rw [hu]; simp
    · by_cases h6 : cnt l = 0
      · cbv; (repeat ((first | refine ln fun _ _ _ => ?_ | refine tt ?_ | refine ff ?_ | refine wr fun _ _ => ?_ | refine wu fun _ _ => ?_ | refine rp fun _ _ _ => ?_ | refine cp fun _ => ?_ | with_reducible refine bq ?_ | refine cl ?_ | refine sd ?_ | intro _ _); cbv)); rw [hu]; simp [h6]
      · cbv; (repeat ((first | refine ln fun _ _ _ => ?_ | refine tt ?_ | refine ff ?_ | refine wr fun _ _ => ?_ | refine wu fun _ _ => ?_ | refine rp fun _ _ _ => ?_ | refine cp fun _ => ?_ | with_reducible refine bq ?_ | refine cl ?_ | refine sd ?_ | intro _ _); cbv)); rw [hu]; simp⟩
def u76 (a : R4) : U := .agg [ub a.1, .l a.2.1, .l a.2.2.1, ui a.2.2.2]
theorem u76_parts (a : R4) : ∃ s l b e, u76 a = .agg [ub s, .l l, .l b, ui e] ∧ (s, l, b, e) = a := ⟨_, _, _, _, rfl, rfl⟩
def wideR (us : List U) (u : U) : Prop := ∃ s l b, Limbs l ∧ Limbs b ∧ cnt l ≤ 500000 ∧ cnt b ≤ 500000 ∧ V b ≠ 0 ∧ us = [.agg [ub s, .l l], .l b] ∧ u = uR (ratOf (mkRat (Z s l) (V b)))
theorem wide_ok : SoundF Tryz.prog 57 wideR := sound [(97, trim6R), (96, make6R), (81, steelyardref03_Gcd.R), (98, steelyardref03_Rem.R)] (orc_cons trim6_ok (orc_cons make6_ok (orc_cons steelyardref03_Gcd.sound (orc_cons steelyardref03_Rem.sound orc_nil)))) Tryz.func57 (by kernel_rfl) (by kernel_rfl) fun us u hR => ⟨0, fun C E hC => by
  obtain ⟨s, l, b, hl, hb, c1, c2, hz, rfl, hu⟩ := hR
  obtain ⟨s1, l1, k1, e1, e2⟩ := tI (hC 97 trim6R (by simp) _ _ ⟨s, l, hl, by omega, rfl, rfl⟩)
  have b1 := lenV hl
  have b2 := lenV hb
  rw [← Z_abs s l] at b1
  generalize Z s l = z at *
  obtain ⟨p1, p2, p3⟩ := mk_parts z (V b) hz
  have hg : 0 < Nat.gcd z.natAbs (V b) := Nat.gcd_pos_of_pos_right _ (by omega)
  have hgb : len (Nat.gcd z.natAbs (V b)) ≤ len (V b) := len_mono (Nat.gcd_le_right _ (by omega))
  have k3 := hC 81 steelyardref03_Gcd.R (by simp) _ _ (gcd3R (a := l1) (e2 ▸ N_limbs _) hb (by rw [e2, cnt_N]; omega) (by omega))
  have v1 : V l1 = z.natAbs := by rw [e2, V_N]
  have q1 : cnt l1 = len z.natAbs := by rw [e2, cnt_N]
  rw [v1] at k3
  have k4 := hC 98 steelyardref03_Rem.R (by simp) _ _ (rem3R (a := l1) (e2 ▸ N_limbs _) (N_limbs (Nat.gcd z.natAbs (V b))) (by omega) (by rw [cnt_N]; omega) (by rw [V_N]; omega))
  have k5 := hC 98 steelyardref03_Rem.R (by simp) _ _ (rem3R hb (N_limbs (Nat.gcd z.natAbs (V b))) (by omega) (by rw [cnt_N]; omega) (by rw [V_N]; omega))
  rw [v1, V_N, ← p1] at k4
  rw [V_N, ← p2] at k5
  have hx : len (mkRat z (V b)).num.natAbs ≤ len z.natAbs := by rw [p1]; exact len_mono (Nat.div_le_self _ _)
  have k6 := hC 96 make6R (by simp) _ _ ⟨s1, N (mkRat z (V b)).num.natAbs, N_limbs _, by rw [cnt_N]; omega, rfl, rfl⟩
  rw [show Z s1 (N (mkRat z (V b)).num.natAbs) = (mkRat z (V b)).num by rw [e1, ← p3]; exact Z_I _] at k6
  obtain ⟨s7, l7, k6, i7, i8⟩ := tI k6
  have hu' : u = .agg [ub s7, .l l7, .l (N (mkRat z (V b)).den)] := by rw [hu, i7, i8]; rfl
  clear hu i7 i8 e1 e2 p1 p2 p3 hg hgb v1 b1 b2 q1 hb hl hz hx c1 c2
  generalize N (mkRat z (V b)).num.natAbs = l3 at *
  generalize N (mkRat z (V b)).den = l4 at *
  generalize N (Nat.gcd z.natAbs (V b)) = l6 at *
  generalize N (z.natAbs % Nat.gcd z.natAbs (V b)) = l8 at *
  generalize N (V b % Nat.gcd z.natAbs (V b)) = l9 at *
  cbv; (repeat ((first | refine ln fun _ _ _ => ?_ | refine tt ?_ | refine ff ?_ | refine wr fun _ _ => ?_ | refine wu fun _ _ => ?_ | refine rp fun _ _ _ => ?_ | refine cp fun _ => ?_ | with_reducible refine bq ?_ | refine cl ?_ | refine sd ?_ | intro _ _); cbv)); exact hu'.symm⟩
def limitR (us : List U) (u : U) : Prop := ∃ q, us = [uR (ratOf q)] ∧ u = u76 (lim q)
theorem limit_ok : SoundF Tryz.prog 95 limitR := sound [] orc_nil Tryz.func95 (by kernel_rfl) (by kernel_rfl) fun us u hR => ⟨0, fun C E hC => by
  obtain ⟨q, rfl, hu⟩ := hR
  have hu2 : u = if cnt (N q.num.natAbs) ≤ 64 ∧ cnt (N q.den) ≤ 64 then .agg [ub (decide (q.num < 0)), .l (N q.num.natAbs), .l (N q.den), ui 0] else .agg [ub false, .l [], .l [], ui 2] := by
    rw [hu, cnt_N, cnt_N]
    unfold lim fits
    by_cases h : len q.num.natAbs ≤ 64 ∧ len q.den ≤ 64
    · rw [if_pos (by simpa using h), if_pos (by omega)]; rfl
    · rw [if_neg (by simpa using h), if_neg (by omega)]; rfl
  clear hu
  unfold uR ratOf
  dsimp only
  generalize decide (q.num < 0) = s at *
  generalize N q.num.natAbs = l at *
  generalize N q.den = b at *
  by_cases h1 : cnt l ≤ 64
  · by_cases h2 : cnt b ≤ 64
    · rw [if_pos ⟨h1, h2⟩] at hu2
      cbv; (repeat ((first | refine ln fun _ _ _ => ?_ | refine tt ?_ | refine ff ?_ | refine wr fun _ _ => ?_ | refine wu fun _ _ => ?_ | refine rp fun _ _ _ => ?_ | refine cp fun _ => ?_ | with_reducible refine bq ?_ | refine cl ?_ | refine sd ?_ | intro _ _); cbv)); exact hu2.symm
    · rw [if_neg (by omega)] at hu2
      cbv; (repeat ((first | refine ln fun _ _ _ => ?_ | refine tt ?_ | refine ff ?_ | refine wr fun _ _ => ?_ | refine wu fun _ _ => ?_ | refine rp fun _ _ _ => ?_ | refine cp fun _ => ?_ | with_reducible refine bq ?_ | refine cl ?_ | refine sd ?_ | intro _ _); cbv)); exact hu2.symm
  · rw [if_neg (by omega)] at hu2
    cbv; (repeat ((first | refine ln fun _ _ _ => ?_ | refine tt ?_ | refine ff ?_ | refine wr fun _ _ => ?_ | refine wu fun _ _ => ?_ | refine rp fun _ _ _ => ?_ | refine cp fun _ => ?_ | with_reducible refine bq ?_ | refine cl ?_ | refine sd ?_ | intro _ _); cbv)); exact hu2.symm⟩
def timesR (us : List U) (u : U) : Prop := ∃ p s l b, fits p = true ∧ Limbs l ∧ Limbs b ∧ cnt l ≤ 64 ∧ cnt b ≤ 64 ∧ V b ≠ 0 ∧ us = [uR (ratOf p), .agg [ub s, .l l, .l b]] ∧ u = uR (ratOf (mkRat (p.num * Z s l) (p.den * V b)))
theorem times_ok : SoundF Tryz.prog 30 timesR := sound [(59, mul6R), (61, steelyardref02_Of.R), (57, wideR)] (orc_cons mul6_ok (orc_cons steelyardref02_Of.sound (orc_cons wide_ok orc_nil))) Tryz.func30 (by kernel_rfl) (by kernel_rfl) fun us u hR => ⟨0, fun C E hC => by
  obtain ⟨p, s, l, b, hp, hl, hb, c1, c2, hz, rfl, hu⟩ := hR
  obtain ⟨s1, l1, b1, e, f1, f2, f3, f4, f5, f6, f7, f8⟩ := rat_parts hp
  rw [e]
  have k1 := hC 59 mul6R (by simp) _ _ ⟨s1, l1, s, l, f1, hl, by omega, by omega, rfl, rfl⟩
  rw [f5] at k1
  have k2 := hC 61 steelyardref02_Of.R (by simp) _ _ (of2R f2 hb (by omega) (by omega))
  rw [f6] at k2
  have m1 := len_mulZ p.num (Z s l)
  have m2 := len_mul p.den (V b)
  obtain ⟨n1, n2⟩ := fits_len hp
  have n3 := lenV hl
  have n4 := lenV hb
  rw [Z_abs] at m1
  obtain ⟨s2, l2, k1, i1, i2⟩ := tI k1
  obtain ⟨l3, k2, i3⟩ := tN k2
  obtain ⟨s4, l4, b4, k3, i4⟩ := tR (hC 57 wideR (by simp) _ _ ⟨s2, l2, l3, i2 ▸ N_limbs _, i3 ▸ N_limbs _, by rw [i2, cnt_N]; omega, by rw [i3, cnt_N]; omega, by rw [i3, V_N]; exact Nat.mul_ne_zero p.den_nz hz, rfl, rfl⟩)
  rw [show Z s2 l2 = p.num * Z s l by rw [i1, i2]; exact Z_I _, show V l3 = p.den * V b by rw [i3, V_N]] at i4
  rw [← i4] at hu
  clear e i1 i2 i3 i4 m1 m2 n1 n2 n3 n4 f1 f2 f3 f4 f5 f6 f7 f8 hp hz
  cbv; (repeat ((first | refine ln fun _ _ _ => ?_ | refine tt ?_ | refine ff ?_ | refine wr fun _ _ => ?_ | refine wu fun _ _ => ?_ | refine rp fun _ _ _ => ?_ | refine cp fun _ => ?_ | with_reducible refine bq ?_ | refine cl ?_ | refine sd ?_ | intro _ _); cbv)); exact hu.symm⟩
def div7R (us : List U) (u : U) : Prop := ∃ a b : R3, LB a ∧ LB b ∧ us = [uR a, uR b] ∧ u = u76 (divS a b)
theorem div7_ok : SoundF Tryz.prog 56 div7R := sound [(46, goodR), (96, make6R), (30, timesR), (95, limitR)] (orc_cons good7_ok (orc_cons make6_ok (orc_cons times_ok (orc_cons limit_ok orc_nil)))) Tryz.func56 (by kernel_rfl) (by kernel_rfl) fun us u hR => ⟨0, fun C E hC => by
  obtain ⟨⟨s1, l1, b1⟩, ⟨s2, l2, b2⟩, ha, hb, rfl, hu⟩ := hR
  have k1 := hC 46 goodR (by simp) _ _ ⟨_, ha, rfl, rfl⟩
  have k2 := hC 46 goodR (by simp) _ _ ⟨_, hb, rfl, rfl⟩
  clear ha hb
  unfold divS at hu
  by_cases h1 : goodB (s1, l1, b1) = true
  case neg =>
    rw [Bool.eq_false_iff.2 h1] at k1 hu
    rw [Bool.false_and, if_neg (by simp), show u76 (bad 1) = .agg [ub false, .l [], .l [], ui 1] from rfl] at hu
    cbv; (repeat ((first | refine ln fun _ _ _ => ?_ | refine tt ?_ | refine ff ?_ | refine wr fun _ _ => ?_ | refine wu fun _ _ => ?_ | refine rp fun _ _ _ => ?_ | refine cp fun _ => ?_ | with_reducible refine bq ?_ | refine cl ?_ | refine sd ?_ | intro _ _); cbv)); exact hu.symm
  by_cases h2 : goodB (s2, l2, b2) = true
  case neg =>
    rw [h1] at k1
    rw [Bool.eq_false_iff.2 h2] at k2 hu
    rw [Bool.and_false, if_neg (by simp), show u76 (bad 1) = .agg [ub false, .l [], .l [], ui 1] from rfl] at hu
    cbv; (repeat ((first | refine ln fun _ _ _ => ?_ | refine tt ?_ | refine ff ?_ | refine wr fun _ _ => ?_ | refine wu fun _ _ => ?_ | refine rp fun _ _ _ => ?_ | refine cp fun _ => ?_ | with_reducible refine bq ?_ | refine cl ?_ | refine sd ?_ | intro _ _); cbv)); exact hu.symm
  rw [h1] at k1 hu
  rw [h2] at k2 hu
  rw [Bool.true_and, if_pos rfl] at hu
  obtain ⟨p, hp, e1, f1, f2, f3, f4, f5, f6, f7, f8⟩ := good_parts h1
  obtain ⟨q, hq, e2, g1, g2, g3, g4, g5, g6, g7, g8⟩ := good_parts h2
  rw [e1, e2] at hu
  obtain ⟨p', hp', ep⟩ := good_iff.1 h1
  have : p' = p := by rw [← qOf_ratOf p', ← ep, e1]
  subst this
  have el : cnt l2 = len q.num.natAbs := by
    obtain ⟨q', hq', eq⟩ := good_iff.1 h2
    have : q' = q := by rw [← qOf_ratOf q', ← eq, e2]
    subst this
    injection eq with _ eq
    injection eq with eq _
    rw [eq, cnt_N]
  have h0 : len q.num.natAbs = 0 ↔ q.num.natAbs = 0 := len_eq_zero
  by_cases hz : q = 0
  · have hn : q.num = 0 := Rat.num_eq_zero.2 hz
    rw [if_pos hz, show u76 (bad 3) = .agg [ub false, .l [], .l [], ui 3] from rfl] at hu
    have hl0 : cnt l2 = 0 := by omega
    clear el h0 hn e1 e2 f1 f2 f3 f4 f5 f6 f7 f8 g1 g2 g3 g4 g5 g6 g7 g8 hz h1 h2
    cbv; (repeat ((first | refine ln fun _ _ _ => ?_ | refine tt ?_ | refine ff ?_ | refine wr fun _ _ => ?_ | refine wu fun _ _ => ?_ | refine rp fun _ _ _ => ?_ | refine cp fun _ => ?_ | with_reducible refine bq ?_ | refine cl ?_ | refine sd ?_ | intro _ _); cbv)); exact hu.symm
  · have hn : q.num ≠ 0 := fun h => hz (Rat.num_eq_zero.1 h)
    have hl0 : ¬ cnt l2 = 0 := by omega
    rw [if_neg hz] at hu
    have k3 := hC 96 make6R (by simp) _ _ ⟨s2, b2, g2, by omega, rfl, rfl⟩
    have e3 : Z s2 b2 = if q.num < 0 then -(q.den : Int) else (q.den : Int) := by
      unfold Z
      rw [g6, g8]
      by_cases h : q.num < 0 <;> simp [h]
    rw [e3] at k3
    obtain ⟨s3, l3, k3, i1, i2⟩ := tI k3
    have ea : (if q.num < 0 then -(q.den : Int) else (q.den : Int)).natAbs = q.den := by split <;> omega
    rw [ea] at i2
    have hq2 := fits_len hq
    have k4 := hC 30 timesR (by simp) _ _ ⟨p', s3, l3, l2, hp', i2 ▸ N_limbs _, g1, by rw [i2, cnt_N]; omega, by omega, by omega, rfl, rfl⟩
    rw [← ep, show Z s3 l3 = (if q.num < 0 then -(q.den : Int) else (q.den : Int)) by rw [i1, i2]; have := Z_I (if q.num < 0 then -(q.den : Int) else (q.den : Int)); rw [I_1, I_2, ea] at this; exact this, g7, show mkRat (p'.num * (if q.num < 0 then -(q.den : Int) else (q.den : Int))) (p'.den * q.num.natAbs) = p' / q by
      rw [← div_mk p' q hn]
      congr 1
      split
      · rw [Int.mul_neg]
      · rfl] at k4
    have k5 := hC 95 limitR (by simp) _ _ ⟨p' / q, rfl, rfl⟩
    obtain ⟨s6, l6, b6, e6, hu', i6⟩ := u76_parts (lim (p' / q))
    rw [hu'] at k5 hu
    obtain ⟨s5, l5, b5, k4, i5⟩ := tR k4
    rw [← i5] at k5
    clear hu' i5 i6 el h0 hn e1 e2 f1 f2 f3 f4 f5 f6 f7 f8 g1 g2 g3 g4 g5 g6 g7 g8 hz h1 h2 e3 i1 i2 ea hq2 ep hp hp' hq
    cbv; (repeat ((first | refine ln fun _ _ _ => ?_ | refine tt ?_ | refine ff ?_ | refine wr fun _ _ => ?_ | refine wu fun _ _ => ?_ | refine rp fun _ _ _ => ?_ | refine cp fun _ => ?_ | with_reducible refine bq ?_ | refine cl ?_ | refine sd ?_ | intro _ _); cbv)); exact hu.symm⟩
def whole7R (us : List U) (u : U) : Prop := ∃ v : Int, -9223372036854775808 ≤ v ∧ v ≤ 9223372036854775807 ∧ us = [ui v] ∧ u = uR (ratOf (v : Rat))
theorem whole7_ok : SoundF Tryz.prog 40 whole7R := sound [(77, of6R)] (orc_cons of6_ok orc_nil) Tryz.func40 (by kernel_rfl) (by kernel_rfl) fun us u hR => ⟨0, fun C E hC => by
  obtain ⟨v, h0, h1, rfl, hu⟩ := hR
  obtain ⟨s, l, k1, e1, e2⟩ := tI (hC 77 of6R (by simp) _ _ ⟨v, h0, h1, rfl, rfl⟩)
  rw [ratOf_int, N_one] at hu
  cbv; (repeat ((first | refine ln fun _ _ _ => ?_ | refine tt ?_ | refine ff ?_ | refine wr fun _ _ => ?_ | refine wu fun _ _ => ?_ | refine rp fun _ _ _ => ?_ | refine cp fun _ => ?_ | with_reducible refine bq ?_ | refine cl ?_ | refine sd ?_ | intro _ _); cbv)); rw [hu, e1, e2]; rfl⟩
def byR (us : List U) (u : U) : Prop := ∃ a b : Int, -9223372036854775808 ≤ a ∧ a ≤ 9223372036854775807 ∧ 0 < b ∧ b ≤ 9223372036854775807 ∧ fits ((a : Rat) / (b : Rat)) = true ∧ us = [ui a, ui b] ∧ u = uR (ratOf ((a : Rat) / (b : Rat)))
theorem by_ok : SoundF Tryz.prog 26 byR := sound [(40, whole7R), (56, div7R)] (orc_cons whole7_ok (orc_cons div7_ok orc_nil)) Tryz.func26 (by kernel_rfl) (by kernel_rfl) fun us u hR => ⟨0, fun C E hC => by
  obtain ⟨a, b, h0, h1, h2, h3, hf, rfl, hu⟩ := hR
  have k1 := hC 40 whole7R (by simp) _ _ ⟨a, h0, h1, rfl, rfl⟩
  have k2 := hC 40 whole7R (by simp) _ _ ⟨b, by omega, h3, rfl, rfl⟩
  have fa : fits (a : Rat) = true := fits_int a (by omega)
  have fb : fits (b : Rat) = true := fits_int b (by omega)
  have hb : (b : Rat) ≠ 0 := by have : b ≠ 0 := by omega
                                exact_mod_cast this
  have k3 := hC 56 div7R (by simp) _ _ ⟨ratOf (a : Rat), ratOf (b : Rat), (LR_ratOf fa).wide, (LR_ratOf fb).wide, rfl, rfl⟩
  rw [divS_fits fa fb hb hf] at k3
  obtain ⟨s1, l1, b1, k1, i1⟩ := tR k1
  obtain ⟨s2, l2, b2, k2, i2⟩ := tR k2
  rw [← i1, ← i2] at k3
  rcases i3 : ratOf ((a : Rat) / (b : Rat)) with ⟨s3, l3, b3⟩
  rw [i3] at k3 hu
  clear i1 i2 i3 hf fa fb hb
  cbv; (repeat ((first | refine ln fun _ _ _ => ?_ | refine tt ?_ | refine ff ?_ | refine wr fun _ _ => ?_ | refine wu fun _ _ => ?_ | refine rp fun _ _ _ => ?_ | refine cp fun _ => ?_ | with_reducible refine bq ?_ | refine cl ?_ | refine sd ?_ | intro _ _); cbv)); exact hu.symm⟩
def quotC : List Tm := [⟨2, 0, 0, 0, none3⟩, ⟨2, 0, 0, 1, none3⟩, ⟨6, 0, 1, 0, none3⟩, ⟨1, 0, 0, 0, ratOf 1⟩, ⟨4, 2, 3, 0, none3⟩]
def quotR (us : List U) (u : U) : Prop := us = [] ∧ u = cU quotC
theorem by_q {C : Orc} (h : Told C 26 byR) (a b : Int) (q : Rat) (h0 : -9223372036854775808 ≤ a ∧ a ≤ 9223372036854775807 ∧ 0 < b ∧ b ≤ 9223372036854775807) (hq : (a : Rat) / (b : Rat) = q) (hf : fits q = true) : ∃ s l d, C 26 [ui a, ui b] (.agg [ub s, .l l, .l d]) ∧ (s, l, d) = ratOf q := by
 subst hq
 exact tR (h _ _ ⟨a, b, h0.1, h0.2.1, h0.2.2.1, h0.2.2.2, hf, rfl, rfl⟩)
theorem quot_ok : SoundF Tryz.prog 33 quotR := sound [(26, byR)] (orc_cons by_ok orc_nil) Tryz.func33 (by kernel_rfl) (by kernel_rfl) fun us u hR => ⟨0, fun C E hC => by
 obtain ⟨rfl, hu⟩ := hR
 obtain ⟨s, l, d, k1, e⟩ := by_q (hC 26 byR (by simp)) 1 1 1 (by decide) (by decide +kernel) (by decide +kernel)
 have hu : u = .s 7 [[ui 2, ui 0, ui 0, ui 0, ub false, .l [], .l []], [ui 2, ui 0, ui 0, ui 1, ub false, .l [], .l []], [ui 6, ui 0, ui 1, ui 0, ub false, .l [], .l []], [ui 1, ui 0, ui 0, ui 0, ub s, .l l, .l d], [ui 4, ui 2, ui 3, ui 0, ub false, .l [], .l []]] := by
  rw [hu]
  unfold cU quotC
  rw [← e]
  rfl
 clear e
 cbv; (repeat ((first | refine ln fun _ _ _ => ?_ | refine tt ?_ | refine ff ?_ | refine wr fun _ _ => ?_ | refine rp fun _ _ _ => ?_ | with_reducible refine bq ?_ | refine cl ?_ | refine sd ?_ | intro _ _); cbv)); exact hu.symm⟩
def ofR' (us : List U) (u : U) : Prop := ∃ c i xs x, (∀ t ∈ c, LB t.q) ∧ cnt c ≤ 1000000 ∧ (∀ a ∈ xs, LB a) ∧ cnt xs ≤ 1000000 ∧ nilEq x (qsU xs) ∧ us = [cU c, ui i, x] ∧ u = uR4 (ofS c i xs)
theorem of_ok' : SoundF Tryz.prog 22 ofR' := relax of_ok fun us u ⟨c, i, xs, x, h1, h2, h3, h4, h5, h6, h7⟩ => ⟨_, u, ⟨c, i, xs, h1, h2, h3, h4, rfl, h7⟩, by rw [h6]; exact ⟨.inl rfl, .inl rfl, h5, trivial⟩, .inl rfl⟩
theorem LB_q {q : Rat} (h : fits q = true) : LB (ratOf q) := (LR_ratOf h).wide
theorem quot_LB : ∀ t ∈ quotC, LB t.q := fun t h => by
 unfold quotC at h
 simp only [List.mem_cons, List.not_mem_nil, or_false] at h
 rcases h with rfl | rfl | rfl | rfl | rfl <;> first | exact LB_none | exact LB_q fits_one
theorem kids_1 {t : Tm} (h : t.k = 7 ∨ t.k = 8) : kids t = [t.a] := by unfold kids; rw [if_pos h]
theorem kids_2 {t : Tm} (h : t.k = 3 ∨ t.k = 4 ∨ t.k = 5 ∨ t.k = 6) : kids t = [t.a, t.b] := by unfold kids; rw [if_neg (by omega), if_pos h]
theorem lean_stay {c : List Tm} {s : Int} {x : Nat} : ∀ {N M : Nat}, x < N → N ≤ M → (leanN c s M)[x]? = (leanN c s N)[x]?
 | N, 0, h1, h2 => absurd h2 (by omega)
 | N, M + 1, h1, h2 => by
  by_cases e : N = M + 1
  ·rw [e]
  ·rw [← lean_stay (M := M) h1 (by omega)]
   conv => lhs; unfold leanN
   split
   ·unfold leanS
    split
    ·rfl
    ·rw [List.getElem?_set_ne (by omega)]
   ·rfl
theorem lean_self {c : List Tm} {s : Int} {q : Nat} {t : Tm} (ht : c[q]? = some t) (h1 : t.k ≠ 1) : (leanN c s (q + 1))[q]? = some (lean1 (leanN c s q) s t) := by
 have hlt := (List.getElem?_eq_some_iff.1 ht).1
 have hl := cnt_eq (leanN_len c s q)
 rw [leanN, ht]
 show (leanS _ _ _ _)[q]? = _
 unfold leanS
 rw [if_neg h1, List.getElem?_set_self (by omega)]
theorem lean_kids {c : List Tm} {s : Int} {q : Nat} {t : Tm} (ht : c[q]? = some t) (hok : termOk t q = true) (hl : (leanN c s c.length)[q]? = some true) :
  t.k = 2 ∨ ((t.k = 7 ∨ (t.k = 8 ∧ t.n ≠ 0)) ∧ bAt (leanN c s c.length) t.a = true) ∨ ((t.k = 3 ∨ t.k = 4 ∨ t.k = 5 ∨ t.k = 6) ∧ (bAt (leanN c s c.length) t.a = true ∨ bAt (leanN c s c.length) t.b = true)) := by
 have hlt := (List.getElem?_eq_some_iff.1 ht).1
 have h1 : t.k ≠ 1 := fun h => by
  rw [lean_lit ht h c.length] at hl
  injection hl with hl
  cases hl
 rw [lean_stay (N := q + 1) (by omega) (by omega), lean_self ht h1] at hl
 injection hl with hl
 have hst : ∀ x : Int, 0 ≤ x → x < q → bAt (leanN c s q) x = bAt (leanN c s c.length) x := fun x h0 h2 => by
  unfold bAt
  rw [lean_stay (N := q) (M := c.length) (by omega) (by omega)]
 unfold lean1 at hl
 rcases term_cases hok with h | ⟨h, h2⟩ | ⟨h, h2, h3⟩ | ⟨h, h2⟩ | ⟨h, h2, h3⟩
 ·exact absurd h h1
 ·exact .inl h
 ·rw [if_neg (by omega), if_neg (by omega), if_neg (by omega), Bool.or_eq_true, hst _ h2.1 h2.2, hst _ h3.1 h3.2] at hl
  exact .inr (.inr ⟨h, hl⟩)
 ·rw [if_neg (by omega), if_pos h, hst _ h2.1 h2.2] at hl
  exact .inr (.inl ⟨.inl h, hl⟩)
 ·rw [if_neg (by omega), if_neg (by omega), if_pos h, Bool.and_eq_true, hst _ h2.1 h2.2] at hl
  refine .inr (.inl ⟨.inr ⟨h, fun e => ?_⟩, hl.2⟩)
  rw [e] at hl
  simp at hl
theorem good_app {c : List Tm} {t : Tm} (h : goodC c = true) (ht : termOk t (cnt c) = true) : goodC (c ++ [t]) = true := goodC_iff.2 fun j u hj => by
 rcases Nat.lt_trichotomy j c.length with hlt | e | hgt
 ·rw [List.getElem?_append_left hlt] at hj
  exact goodC_iff.1 h j u hj
 ·subst e
  rw [List.getElem?_append_right (Nat.le_refl _), Nat.sub_self] at hj
  injection hj with hj
  subst hj
  exact ht
 ·rw [List.getElem?_eq_none (by rw [List.length_append]; simp; omega)] at hj
  cases hj
theorem none_none : noneB none3.1 none3.2.1 none3.2.2 = true := rfl
theorem ok_two {k a b i : Int} (hk : k = 3 ∨ k = 4 ∨ k = 5 ∨ k = 6) (ha : 0 ≤ a ∧ a < i) (hb : 0 ≤ b ∧ b < i) : termOk (mkT k a b 0) i = true := by
 unfold termOk mkT
 dsimp only
 rw [if_neg (by omega), none_none, if_neg (by omega), if_neg (by omega), if_neg (by omega), if_pos hk]
 unfold kid
 simp [ha.1, ha.2, hb.1, hb.2]
theorem ok_neg {a i : Int} (ha : 0 ≤ a ∧ a < i) : termOk (mkT 7 a 0 0) i = true := by
 unfold termOk mkT
 dsimp only
 rw [if_neg (by omega), none_none, if_neg (by omega), if_pos rfl]
 unfold kid
 simp [ha.1, ha.2]
theorem ok_pow {a n i : Int} (ha : 0 ≤ a ∧ a < i) (hn : -128 ≤ n ∧ n ≤ 128) : termOk (mkT 8 a 0 n) i = true := by
 unfold termOk mkT
 dsimp only
 rw [if_neg (by omega), none_none, if_neg (by omega), if_neg (by omega), if_pos rfl]
 unfold kid
 simp [ha.1, ha.2, hn.1, hn.2]
theorem ok_lit {v i : Int} (h : fits (v : Rat) = true) : termOk (litT v) i = true := by
 unfold termOk litT
 dsimp only
 rw [if_pos rfl, good_ratOf h]
 simp
theorem fits_int {v : Int} (h : -128 ≤ v ∧ v ≤ 128) : fits (v : Rat) = true := by
 have key : ∀ n : Nat, n ≤ 256 → fits (((n : Int) - 128 : Int) : Rat) = true := by decide +kernel
 have := key (v + 128).toNat (by omega)
 rwa [show (((v + 128).toNat : Int) - 128) = v by omega] at this
structure Rule (m : Int) (c : List Tm) (r : MS) : Prop where
 good : goodC r.1 = true
 grows : cnt c ≤ cnt r.1
 lo : m ≤ r.2.1
 hi : r.2.1 < cnt r.1
theorem Rule.more {m : Int} {c e : List Tm} {u : Tm} {b : Bool} (hg : goodC e = true) (hc : cnt c ≤ cnt e) (hm : m ≤ cnt c) (ht : termOk u (cnt e) = true) : Rule m c (e ++ [u], cnt e, b) :=
 ⟨good_app hg ht, by show cnt c ≤ cnt (e ++ [u]); rw [cnt_app]; omega, by show m ≤ cnt e; omega, by show cnt e < cnt (e ++ [u]); rw [cnt_app]; omega⟩
theorem Rule.none {m : Int} {c : List Tm} {x : Int} {b : Bool} (hg : goodC c = true) (h : m ≤ x ∧ x < cnt c) : Rule m c (c, x, b) := ⟨hg, Int.le_refl _, h.1, h.2⟩
theorem sum_rule {l : List Bool} {d : List Int} {c : List Tm} {t : Tm} {m : Int} {b : Bool} (hg : goodC c = true) (h0 : 0 ≤ m) (hm : m ≤ cnt c) (hk : t.k = 3 ∨ t.k = 4) (hab : bAt l t.a = true ∨ bAt l t.b = true) (hA : bAt l t.a = true → m ≤ dAt d t.a ∧ dAt d t.a < cnt c) (hB : bAt l t.b = true → m ≤ dAt d t.b ∧ dAt d t.b < cnt c) : Rule m c (sumS l d c b t) := by
 unfold sumS
 split
 ·rename_i a
  have a1 := hA a
  split
  ·rename_i e
   have e1 := hB e
   exact Rule.more hg (Int.le_refl _) hm (ok_two (by omega) ⟨by omega, a1.2⟩ ⟨by omega, e1.2⟩)
  ·exact Rule.none hg a1
 ·rename_i a
  have e1 := hB (hab.resolve_left a)
  split
  ·exact Rule.more hg (Int.le_refl _) hm (ok_neg ⟨by omega, e1.2⟩)
  ·exact Rule.none hg e1
theorem product_rule {l : List Bool} {d : List Int} {c : List Tm} {t : Tm} {m : Int} {b : Bool} (hg : goodC c = true) (h0 : 0 ≤ m) (hm : m ≤ cnt c) (ha : 0 ≤ t.a ∧ t.a < m) (hb : 0 ≤ t.b ∧ t.b < m) (hab : bAt l t.a = true ∨ bAt l t.b = true) (hA : bAt l t.a = true → m ≤ dAt d t.a ∧ dAt d t.a < cnt c) (hB : bAt l t.b = true → m ≤ dAt d t.b ∧ dAt d t.b < cnt c) : Rule m c (productS l d c b t) := by
 unfold productS
 dsimp only
 split
 ·rename_i e
  have e1 := hB e
  split
  ·rename_i a
   have a1 := hA a
   have g1 := good_app hg (ok_two (k := 5) (by omega) ⟨by omega, a1.2⟩ (show 0 ≤ t.b ∧ t.b < cnt c by omega))
   have g2 := good_app g1 (ok_two (k := 5) (a := t.a) (b := dAt d t.b) (by omega) (by rw [cnt_app]; omega) (by rw [cnt_app]; omega))
   exact Rule.more g2 (by simp only [cnt_app]; omega) hm (ok_two (by omega) (by simp only [cnt_app]; have := cnt0 c; omega) (by simp only [cnt_app]; have := cnt0 c; omega))
  ·exact Rule.more hg (Int.le_refl _) hm (ok_two (by omega) (by omega) ⟨by omega, e1.2⟩)
 ·rename_i e
  have a := hab.resolve_right e
  have a1 := hA a
  rw [if_pos a]
  exact Rule.more hg (Int.le_refl _) hm (ok_two (by omega) ⟨by omega, a1.2⟩ (by omega))
theorem quotient_rule {l : List Bool} {d : List Int} {c : List Tm} {t : Tm} {m : Int} {b : Bool} (hg : goodC c = true) (h0 : 0 ≤ m) (hm : m ≤ cnt c) (ha : 0 ≤ t.a ∧ t.a < m) (hb : 0 ≤ t.b ∧ t.b < m) (hab : bAt l t.a = true ∨ bAt l t.b = true) (hA : bAt l t.a = true → m ≤ dAt d t.a ∧ dAt d t.a < cnt c) (hB : bAt l t.b = true → m ≤ dAt d t.b ∧ dAt d t.b < cnt c) : Rule m c (quotientS l d c b t) := by
 have hc0 := cnt0 c
 unfold quotientS
 dsimp only
 split
 ·rename_i e
  have e1 := hB e
  split
  ·rename_i a
   have a1 := hA a
   have g1 := good_app hg (ok_two (k := 5) (by omega) ⟨by omega, a1.2⟩ (show 0 ≤ t.b ∧ t.b < cnt c by omega))
   have g2 := good_app g1 (ok_two (k := 5) (a := t.a) (b := dAt d t.b) (by omega) (by rw [cnt_app]; omega) (by rw [cnt_app]; omega))
   have g3 := good_app g2 (ok_two (k := 4) (a := cnt c) (b := cnt (c ++ [mkT 5 (dAt d t.a) t.b 0])) (by omega) (by simp only [cnt_app]; omega) (by simp only [cnt_app]; omega))
   have g4 := good_app g3 (ok_pow (a := t.b) (n := 2) (by simp only [cnt_app]; omega) (by omega))
   exact Rule.more g4 (by simp only [cnt_app]; omega) hm (ok_two (by omega) (by simp only [cnt_app]; omega) (by simp only [cnt_app]; omega))
  ·have g1 := good_app hg (ok_two (k := 5) (a := t.a) (b := dAt d t.b) (by omega) (by omega) ⟨by omega, e1.2⟩)
   have g2 := good_app g1 (ok_neg (a := cnt c) (by rw [cnt_app]; omega))
   have g3 := good_app g2 (ok_pow (a := t.b) (n := 2) (by simp only [cnt_app]; omega) (by omega))
   exact Rule.more g3 (by simp only [cnt_app]; omega) hm (ok_two (by omega) (by simp only [cnt_app]; omega) (by simp only [cnt_app]; omega))
 ·rename_i e
  have a1 := hA (hab.resolve_right e)
  exact Rule.more hg (Int.le_refl _) hm (ok_two (by omega) ⟨by omega, a1.2⟩ (by omega))
theorem raised_rule {d : List Int} {c : List Tm} {t : Tm} {m : Int} (hg : goodC c = true) (h0 : 0 ≤ m) (hm : m ≤ cnt c) (ha : 0 ≤ t.a ∧ t.a < m) (hn : -128 ≤ t.n ∧ t.n ≤ 128) (hA : m ≤ dAt d t.a ∧ dAt d t.a < cnt c) (hb : (raisedS d c false t).2.2 = false) : Rule m c (raisedS d c false t) := by
 have hc0 := cnt0 c
 unfold raisedS at hb ⊢
 split
 ·exact Rule.none hg hA
 ·rename_i h1
  rw [if_neg h1] at hb
  have hb : (false || decide (t.n - 1 < -128)) = false := hb
  simp only [Bool.false_or, decide_eq_false_iff_not] at hb
  dsimp only
  have g1 := good_app hg (ok_lit (v := t.n) (fits_int (by omega)))
  have g2 := good_app g1 (ok_pow (a := t.a) (n := t.n - 1) (by rw [cnt_app]; omega) (by omega))
  have g3 := good_app g2 (ok_two (k := 5) (a := cnt c) (b := cnt (c ++ [litT t.n])) (by omega) (by simp only [cnt_app]; omega) (by simp only [cnt_app]; omega))
  exact Rule.more g3 (by simp only [cnt_app]; omega) hm (ok_two (by omega) (by simp only [cnt_app]; omega) (by simp only [cnt_app]; omega))
theorem term_rule {l : List Bool} {d : List Int} {c : List Tm} {t : Tm} {i m : Int} (hg : goodC c = true) (h0 : 0 ≤ m) (hm : m ≤ cnt c) (him : i ≤ m) (ht : termOk t i = true) (hl : t.k = 2 ∨ ((t.k = 7 ∨ (t.k = 8 ∧ t.n ≠ 0)) ∧ bAt l t.a = true) ∨ ((t.k = 3 ∨ t.k = 4 ∨ t.k = 5 ∨ t.k = 6) ∧ (bAt l t.a = true ∨ bAt l t.b = true)))
  (hd : ∀ x ∈ kids t, bAt l x = true → m ≤ dAt d x ∧ dAt d x < cnt c) (hb : (termS l d c false t).2.2 = false) : Rule m c (termS l d c false t) := by
 unfold termS at hb ⊢
 rcases term_cases ht with h | ⟨h, h2⟩ | ⟨h, h2, h3⟩ | ⟨h, h2⟩ | ⟨h, h2, h3⟩
 ·omega
 ·rw [if_pos h]
  exact Rule.more hg (Int.le_refl _) hm (ok_lit (fits_int (by omega)))
 ·have hab : bAt l t.a = true ∨ bAt l t.b = true := by
   rcases hl with e | ⟨e, _⟩ | ⟨_, e⟩
   ·omega
   ·omega
   ·exact e
  have hA := fun e => hd t.a (by rw [kids_2 h]; simp) e
  have hB := fun e => hd t.b (by rw [kids_2 h]; simp) e
  rw [if_neg (by omega), if_neg (by omega)]
  rcases h with h | h | h | h
  ·rw [if_neg (by omega), if_neg (by omega), if_neg (by omega)]
   exact sum_rule hg h0 hm (.inl h) hab hA hB
  ·rw [if_neg (by omega), if_neg (by omega), if_neg (by omega)]
   exact sum_rule hg h0 hm (.inr h) hab hA hB
  ·rw [if_pos h]
   exact product_rule hg h0 hm (by omega) (by omega) hab hA hB
  ·rw [if_neg (by omega), if_pos h]
   exact quotient_rule hg h0 hm (by omega) (by omega) hab hA hB
 ·have hA := hd t.a (by rw [kids_1 (.inl h)]; simp) (by
   rcases hl with e | ⟨_, e⟩ | ⟨e, _⟩
   ·omega
   ·exact e
   ·omega)
  rw [if_neg (by omega), if_pos h]
  exact Rule.more hg (Int.le_refl _) hm (ok_neg ⟨by omega, hA.2⟩)
 ·have hA := hd t.a (by rw [kids_1 (.inr h)]; simp) (by
   rcases hl with e | ⟨_, e⟩ | ⟨e, _⟩
   ·omega
   ·exact e
   ·omega)
  rw [if_neg (by omega), if_neg (by omega), if_neg (by omega), if_neg (by omega), if_pos h] at hb ⊢
  exact raised_rule hg h0 hm (by omega) h3 hA hb
theorem term_bad (l : List Bool) (d : List Int) (c : List Tm) (t : Tm) : (termS l d c true t).2.2 = true := by
 unfold termS productS quotientS raisedS sumS
 repeat' split
 all_goals rfl
theorem dAt_set {d : List Int} {q : Nat} {x y : Int} (h0 : 0 ≤ x) (hq : q < d.length) : dAt (d.set q y) x = if x = q then y else dAt d x := by
 unfold dAt
 rw [List.getElem?_set]
 by_cases e : x = q
 ·rw [if_pos (by omega), if_pos hq, if_pos e]
  rfl
 ·rw [if_neg (by omega), if_neg e]
theorem der_inv {c : List Tm} {i s : Int} (hg : goodC c = true) (hi0 : 0 ≤ i) (hi1 : i < cnt c) : ∀ q : Nat, (q : Int) ≤ i + 1 → (derN c (leanN c s c.length) (needs c i.toNat) (i.toNat + 1) q).2.2 = false →
  goodC (derN c (leanN c s c.length) (needs c i.toNat) (i.toNat + 1) q).1 = true ∧ i + 1 ≤ cnt (derN c (leanN c s c.length) (needs c i.toNat) (i.toNat + 1) q).1 ∧
  ∀ j : Int, 0 ≤ j → j < q → (needs c i.toNat)[j.toNat]? = some true → (leanN c s c.length)[j.toNat]? = some true → i + 1 ≤ dAt (derN c (leanN c s c.length) (needs c i.toNat) (i.toNat + 1) q).2.1 j ∧ dAt (derN c (leanN c s c.length) (needs c i.toNat) (i.toNat + 1) q).2.1 j < cnt (derN c (leanN c s c.length) (needs c i.toNat) (i.toNat + 1) q).1
 | 0, _, _ => by
  unfold derN
  refine ⟨goodC_iff.2 fun j t hj => ?_, ?_, fun j h0 h1 => absurd h1 (by omega)⟩
  ·rw [List.getElem?_take] at hj
   split at hj
   ·exact goodC_iff.1 hg j t hj
   ·cases hj
  ·show i + 1 ≤ cnt (c.take (i.toNat + 1))
   unfold cnt at *
   rw [List.length_take]
   omega
 | q + 1, hq, hb => by
  have hlt : q < c.length := by unfold cnt at hi1; omega
  obtain ⟨t, ht⟩ : ∃ t, c[q]? = some t := ⟨_, List.getElem?_eq_getElem hlt⟩
  have hlen := der_len c (leanN c s c.length) (needs c i.toNat) (i.toNat + 1) q
  have hih := der_inv hg hi0 hi1 (s := s) q (by omega)
  unfold derN at hb ⊢
  by_cases hc : (needs c i.toNat)[q]? = some true ∧ (leanN c s c.length)[q]? = some true
  ·rw [if_pos hc, ht] at hb ⊢
   dsimp only at hb ⊢
   generalize derN c (leanN c s c.length) (needs c i.toNat) (i.toNat + 1) q = p at *
   obtain ⟨cc, dd, bd⟩ := p
   dsimp only at *
   cases bd
   case true => rw [term_bad] at hb; cases hb
   obtain ⟨g1, g2, g3⟩ := hih rfl
   have hok := goodC_iff.1 hg q t ht
   have hR := term_rule (m := i + 1) (i := q) g1 (by omega) g2 (by omega) hok (lean_kids ht hok hc.2) (fun x hx hb => by
    have hx' := kids_in hok x hx
    refine g3 x hx'.1 hx'.2 (needs_kid (ahead_of hg) ht hx hc.1) ?_
    unfold bAt at hb
    cases e : (leanN c s c.length)[x.toNat]? with
    | none => rw [e] at hb; cases hb
    | some b => rw [e] at hb; have : b = true := hb; rw [this]) hb
   have hl : q < dd.length := by unfold cnt at hlen; omega
   refine ⟨hR.good, Int.le_trans g2 hR.grows, fun j j0 j1 n1 l1 => ?_⟩
   rw [dAt_set j0 hl]
   split
   ·exact ⟨hR.lo, hR.hi⟩
   ·rename_i hne
    have := g3 j j0 (by omega) n1 l1
    exact ⟨this.1, Int.lt_of_lt_of_le this.2 hR.grows⟩
  ·rw [if_neg hc] at hb ⊢
   obtain ⟨g1, g2, g3⟩ := hih hb
   refine ⟨g1, g2, fun j j0 j1 n1 l1 => ?_⟩
   by_cases e : j = q
   ·rw [e] at n1 l1
    exact absurd ⟨n1, l1⟩ hc
   ·exact g3 j j0 (by omega) n1 l1
theorem down_none {c : List Tm} {s : List Bool} : ∀ j : Nat, (∀ x, x < j → ¬ s[x]? = some true) → down c j s = s
 | 0, _ => rfl
 | j + 1, h => by
  unfold down
  rw [if_neg (h j (by omega))]
  exact down_none j fun x hx => h x (by omega)
theorem of_lit {D : List Tm} {v : Int} (hg : goodC D = true) (hv : fits (v : Rat) = true) : ofS (D ++ [litT v]) (cnt D) [] = to4 (ratOf (v : Rat)) := by
 have hgc : goodC (D ++ [litT v]) = true := good_app hg (ok_lit hv)
 have hN : (cnt D).toNat = D.length := by unfold cnt; omega
 have hat : (D ++ [litT v])[D.length]? = some (litT v) := by simp
 have hlen : (D ++ [litT v]).length = D.length + 1 := by simp
 generalize hc : D ++ [litT v] = c at *
 obtain ⟨s0, hs0⟩ : ∃ s0, s0 = (List.replicate c.length false).set D.length true := ⟨_, rfl⟩
 have hs : ∀ j : Nat, s0[j]? = some true ↔ j = D.length := fun j => by
  rw [hs0, set_true, List.length_replicate]
  constructor
  ·rintro (h | h)
   ·rw [List.getElem?_replicate] at h
    split at h
    ·injection h with h; cases h
    ·cases h
   ·exact h.2.symm
  ·rintro rfl
   exact .inr ⟨by omega, rfl⟩
 have hnd : needs c D.length = s0 := by
  unfold needs
  rw [← hs0]
  unfold down
  rw [if_pos ((hs _).2 rfl), kidsAt, hat]
  have : kids (litT v) = [] := rfl
  show down c D.length (mark s0 (kids (litT v))) = s0
  rw [this]
  exact down_none _ fun x hx h => by have := (hs x).1 h; omega
 have hmade : madeB c (cnt D) [] = true := by
  unfold madeB mayC
  rw [hN, hnd, hgc]
  have h1 : refsB c s0 (cnt ([] : List R3)) = true := refs_iff.2 fun j t hj hb hk => by
   have := (hs j).1 hb
   subst this
   rw [hat] at hj
   injection hj with hj
   subst hj
   exact absurd hk (by show ¬ (1 : Int) = 2; decide)
  rw [h1]
  have h2 : decide (0 ≤ cnt D) = true := decide_eq_true (cnt0 D)
  have h3 : decide (cnt D < cnt c) = true := decide_eq_true (by unfold cnt; omega)
  rw [h2, h3]
  rfl
 have hev : ∀ q, q ≤ D.length → evN c [] s0 q = (List.replicate c.length none3, 0) := by
  intro q
  induction q with
  | zero => intro _; rfl
  | succ q ih =>
   intro hq
   rw [evN, ih (by omega), if_pos rfl, evStep, if_neg fun h => by have := (hs q).1 h; omega]
 have hlast : evN c [] s0 (D.length + 1) = ((List.replicate c.length none3).set D.length (ratOf (v : Rat)), 0) := by
  rw [evN, hev _ (Nat.le_refl _), if_pos rfl, evStep, if_pos ((hs _).2 rfl), hat]
  have he : evT (List.replicate c.length none3) [] (litT v) = to4 (ratOf (v : Rat)) := by
   unfold evT litT
   dsimp only
   rw [if_pos rfl, own_good (good_ratOf hv)]
  dsimp only
  rw [he]
  rfl
 unfold ofS
 rw [if_pos hmade, hN, hnd, hlast]
 dsimp only
 rw [if_pos rfl]
 congr 1
 unfold at3
 rw [hN, List.getElem?_set, if_pos rfl, if_pos (by rw [List.length_replicate]; omega)]
 rfl
theorem LB_lit {v : Int} (h : -128 ≤ v ∧ v ≤ 128) : LB (litT v).q := LB_q (fits_int h)
theorem in_app {c e : List Tm} {t : Tm} (h : ∀ u ∈ e, u ∈ c ∨ LB u.q) (ht : LB t.q) : ∀ u ∈ e ++ [t], u ∈ c ∨ LB u.q := fun u hu => by
 rcases List.mem_append.1 hu with hu | hu
 ·exact h u hu
 ·rw [List.mem_singleton.1 hu]
  exact .inr ht
theorem term_LB {l : List Bool} {d : List Int} {c : List Tm} {bad : Bool} {t : Tm} {i : Int} (hok : termOk t i = true) : ∀ u ∈ (termS l d c bad t).1, u ∈ c ∨ LB u.q := by
 have hn : t.k = 8 → -128 ≤ t.n ∧ t.n ≤ 128 := fun h => by
  rcases term_cases hok with g | ⟨g, _⟩ | ⟨g, _⟩ | ⟨g, _⟩ | ⟨_, _, g⟩
  ·omega
  ·omega
  ·omega
  ·omega
  ·exact g
 have h0 : LB none3 := LB_none
 have h1 : LB (litT 1).q := LB_lit (by omega)
 have h2 : t.k = 8 → LB (litT t.n).q := fun h => LB_lit (hn h)
 unfold termS productS quotientS raisedS sumS
 repeat' split
 all_goals
  repeat' (first
   | exact fun u h => .inl h
   | exact h0
   | exact h1
   | exact h2 (by assumption)
   | refine in_app ?_ ?_)
theorem der_LB {c : List Tm} {l nd : List Bool} {m : Nat} (hg : goodC c = true) (hq : ∀ t ∈ c, LB t.q) : ∀ q, ∀ u ∈ (derN c l nd m q).1, LB u.q
 | 0, u, hu => hq u (List.mem_of_mem_take hu)
 | q + 1, u, hu => by
  unfold derN at hu
  split at hu
  ·split at hu
   ·rename_i t ht
    rcases term_LB (goodC_iff.1 hg q t ht) u hu with h | h
    ·exact der_LB hg hq q u h
    ·exact h
   ·exact der_LB hg hq q u hu
  ·exact der_LB hg hq q u hu
def diffOfR' (us : List U) (u : U) : Prop := ∃ c i s x, (∀ t ∈ c, LB t.q) ∧ cnt c ≤ 1000 ∧ nilEq x (cU c) ∧ us = [x, ui i, ui s] ∧ u = derU (derS c i s)
theorem diffOf_ok' : SoundF Tryz.prog 11 diffOfR' := relax diffOf_ok fun us u ⟨c, i, s, x, h1, h2, h3, h4, h5⟩ => ⟨_, u, ⟨c, i, s, h1, h2, rfl, h5⟩, by rw [h4]; exact ⟨h3, .inl rfl, .inl rfl, trivial⟩, .inl rfl⟩
theorem v1 : (derS quotC 4 1).2 = (9, 0) ∧ cnt (derS quotC 4 1).1 = 10 := by decide +kernel
theorem v2 : (derS quotC 4 2).2.2 = 0 ∧ cnt (derS quotC 4 2).1 = 6 := by decide +kernel
theorem v3 : ofS (derS quotC 4 1).1 9 [ratOf 3, ratOf 2] = to4 (ratOf (-3 / 4)) := by decide +kernel
theorem v4 : ofS (derS quotC 4 2).1 (derS quotC 4 2).2.1 [ratOf 3, ratOf 2] = to4 (ratOf 0) := by decide +kernel
theorem v5 : (derS [] 0 0).2 = (0, 1) := by decide +kernel
theorem v6 : mayC quotC 4 = true ∧ leanN quotC 1 quotC.length = [false, true, true, false, true] := by decide +kernel
theorem quot_good : goodC quotC = true := by decide +kernel
theorem derS_LB {c : List Tm} {i s : Int} (hg : goodC c = true) (hq : ∀ t ∈ c, LB t.q) : ∀ u ∈ (derS c i s).1, LB u.q := fun u hu => by
 unfold derS derAll at hu
 split at hu
 ·split at hu
  ·split at hu
   ·cases hu
   ·exact der_LB hg hq _ u hu
  ·split at hu
   ·cases hu
   ·rcases List.mem_append.1 hu with hu | hu
    ·exact der_LB hg hq _ u hu
    ·rw [List.mem_singleton.1 hu]
     exact LB_lit (by omega)
 ·cases hu
def yesR (us : List U) (u : U) : Prop := us = [] ∧ u = ub true
theorem wakes_ok : SoundF Tryz.prog 9 yesR := sound [(26, byR), (33, quotR), (22, ofR'), (11, diffOfR'), (15, leansR), (24, keepR), (14, keepBoolsR)] (orc_cons by_ok (orc_cons quot_ok (orc_cons of_ok' (orc_cons diffOf_ok' (orc_cons leans_ok (orc_cons keep_ok (orc_cons keepBools_ok orc_nil))))))) Tryz.func9 (by kernel_rfl) (by kernel_rfl) fun us u hR => ⟨0, fun C E hC => by
 obtain ⟨rfl, hu⟩ := hR
 have kb := hC 26 byR (by simp)
 obtain ⟨s3, l3, d3, b3, e3⟩ := by_q kb 3 1 3 (by decide) (by decide +kernel) (by decide +kernel)
 obtain ⟨s2, l2, d2, b2, e2⟩ := by_q kb 2 1 2 (by decide) (by decide +kernel) (by decide +kernel)
 obtain ⟨s0, l0, d0, b0, e0⟩ := by_q kb 0 1 0 (by decide) (by decide +kernel) (by decide +kernel)
 obtain ⟨sh, lh, dh, bh, eh⟩ := by_q kb (-3) 4 (-3 / 4) (by decide) (by decide +kernel) (by decide +kernel)
 have kq := hC 33 quotR (by simp) _ _ ⟨rfl, rfl⟩
 have L3 : LB (s3, l3, d3) := e3 ▸ LB_q (by decide +kernel)
 have L2 : LB (s2, l2, d2) := e2 ▸ LB_q (by decide +kernel)
 have L32 : ∀ a ∈ [(s3, l3, d3), (s2, l2, d2)], LB a := by simp [L3, L2]
 have c5 : cnt quotC ≤ 1000 := by decide
 have cc : cnt [(s3, l3, d3), (s2, l2, d2)] ≤ 1000000 := by unfold cnt; simp
 have o1 := hC 11 diffOfR' (by simp) _ _ ⟨quotC, 4, 1, _, quot_LB, c5, .inl rfl, rfl, rfl⟩
 have o2 := hC 11 diffOfR' (by simp) _ _ ⟨quotC, 4, 2, _, quot_LB, c5, .inl rfl, rfl, rfl⟩
 have o3 := hC 11 diffOfR' (by simp) _ _ ⟨[], 0, 0, nilU, by simp, by decide, .inr ⟨rfl, 7, rfl⟩, rfl, rfl⟩
 have v1' := v1.1
 have v1c := v1.2
 have p1 := hC 22 ofR' (by simp) _ _ ⟨(derS quotC 4 1).1, 9, [(s3, l3, d3), (s2, l2, d2)], _, derS_LB quot_good quot_LB, by rw [v1c]; omega, L32, cc, .inl rfl, rfl, rfl⟩
 have v2' := v2.1
 have v2c := v2.2
 have p2 := hC 22 ofR' (by simp) _ _ ⟨(derS quotC 4 2).1, (derS quotC 4 2).2.1, [(s3, l3, d3), (s2, l2, d2)], _, derS_LB quot_good quot_LB, by rw [v2c]; omega, L32, cc, .inl rfl, rfl, rfl⟩
 have q1 := hC 15 leansR (by simp) _ _ ⟨quotC, 4, 1, quot_LB, by omega, rfl, rfl⟩
 have r1 := hC 24 keepR (by simp) _ _ ⟨(sh, lh, dh), (sh, lh, dh), by rw [eh]; decide +kernel, by rw [eh]; decide +kernel, rfl, rfl⟩
 have r2 := hC 24 keepR (by simp) _ _ ⟨(s0, l0, d0), (s0, l0, d0), by rw [e0]; decide +kernel, by rw [e0]; decide +kernel, rfl, rfl⟩
 have r4 := hC 14 keepBoolsR (by simp) _ _ ⟨[false, true, true, false, true], [false, true, true, false, true], by decide, rfl, rfl⟩
 rw [decide_eq_true rfl] at r1 r2 r4
 rw [show ofS (derS quotC 4 1).1 9 [(s3, l3, d3), (s2, l2, d2)] = (sh, lh, dh, 0) by rw [e3, e2, v3, ← eh]; rfl] at p1
 rw [show ofS (derS quotC 4 2).1 (derS quotC 4 2).2.1 [(s3, l3, d3), (s2, l2, d2)] = (s0, l0, d0, 0) by rw [e3, e2, v4, ← e0]; rfl] at p2
 unfold leansU at q1
 rw [if_pos v6.1, v6.2] at q1
 have o1 : C 11 [cU quotC, ui 4, ui 1] (.tup [cU (derS quotC 4 1).1, ui 9, ui 0]) := by
  have e : derU (derS quotC 4 1) = .tup [cU (derS quotC 4 1).1, ui 9, ui 0] := by unfold derU; rw [v1']; rfl
  rw [← e]; exact o1
 have o2 : C 11 [cU quotC, ui 4, ui 2] (.tup [cU (derS quotC 4 2).1, ui (derS quotC 4 2).2.1, ui 0]) := by
  have e : derU (derS quotC 4 2) = .tup [cU (derS quotC 4 2).1, ui (derS quotC 4 2).2.1, ui 0] := by unfold derU; rw [v2', if_pos rfl]
  rw [← e]; exact o2
 have o3 : C 11 [nilU, ui 0, ui 0] (.tup [nilU, ui 0, ui 1]) := by
  have e : derU (derS [] 0 0) = .tup [nilU, ui 0, ui 1] := by unfold derU; rw [v5]; rfl
  rw [← e]; exact o3
 have m1 := cnt_map (derS quotC 4 1).1 tU
 have m2 := cnt_map (derS quotC 4 2).1 tU
 rw [v1c] at m1
 rw [v2c] at m2
 unfold cU at o1 o2 p1 p2 kq q1
 obtain ⟨D1, hD1⟩ : ∃ D, (derS quotC 4 1).1.map tU = D := ⟨_, rfl⟩
 obtain ⟨D2, hD2⟩ : ∃ D, (derS quotC 4 2).1.map tU = D := ⟨_, rfl⟩
 obtain ⟨k2, hk2⟩ : ∃ k, (derS quotC 4 2).2.1 = k := ⟨_, rfl⟩
 obtain ⟨cs, hcs⟩ : ∃ cs, quotC.map tU = cs := ⟨_, rfl⟩
 rw [hD1] at o1 p1 m1
 rw [hD2, hk2] at o2 p2
 rw [hD2] at m2
 rw [hcs] at o1 o2 kq q1
 have p1 : C 22 [.s 7 D1, ui 9, .s 3 [[ub s3, .l l3, .l d3], [ub s2, .l l2, .l d2]]] (.tup [.agg [ub sh, .l lh, .l dh], ui 0]) := p1
 have p2 : C 22 [.s 7 D2, ui k2, .s 3 [[ub s3, .l l3, .l d3], [ub s2, .l l2, .l d2]]] (.tup [.agg [ub s0, .l l0, .l d0], ui 0]) := p2
 have q1 : C 15 [.s 7 cs, ui 4, ui 1] (.s 1 [[ub false], [ub true], [ub true], [ub false], [ub true]]) := q1
 have r1 : C 24 [.agg [ub sh, .l lh, .l dh], .agg [ub sh, .l lh, .l dh]] (ub true) := r1
 have r2 : C 24 [.agg [ub s0, .l l0, .l d0], .agg [ub s0, .l l0, .l d0]] (ub true) := r2
 have r4 : C 14 [.s 1 [[ub false], [ub true], [ub true], [ub false], [ub true]], .s 1 [[ub false], [ub true], [ub true], [ub false], [ub true]]] (ub true) := r4
 clear kb hC v1' v1c v2' v2c L3 L2 L32 c5 cc e3 e2 e0 eh hD1 hD2 hk2 hcs
 cbv; (repeat ((first | with_reducible refine ln fun _ _ _ => ?_ | refine tt ?_ | refine ff ?_ | refine tt ?_ rfl | with_reducible refine wr fun _ _ => ?_ | refine rp fun _ _ _ => ?_ | with_reducible refine bq ?_ | refine cl ?_ | refine sd ?_); cbv)); exact hu.symm⟩
def overQ (n : Int) (q : R3) : Bool := decide (n < cnt q.2.1) || decide (n < cnt q.2.2)
def overR (n : Int) (us : List U) (u : U) : Prop := ∃ q : R3, us = [uR q] ∧ u = ub (overQ n q)
theorem large_ok : SoundF Tryz.prog 32 (overR 200) := sound [] orc_nil Tryz.func32 (by kernel_rfl) (by kernel_rfl) fun us u hR => ⟨0, fun C E hC => by
 obtain ⟨⟨s, l, d⟩, rfl, hu⟩ := hR
 unfold overQ at hu
 dsimp only at hu
 cbv
 rcases Decidable.em (200 < cnt l) with h1 | h1
 ·rw [decide_eq_true h1, Bool.true_or] at hu
  (repeat ((first | with_reducible refine ln fun _ _ _ => ?_ | refine tt ?_ | refine ff ?_ | refine tt ?_ rfl | with_reducible refine wr fun _ _ => ?_ | refine rp fun _ _ _ => ?_ | with_reducible refine bq ?_ | refine cl ?_ | refine sd ?_); cbv)); exact hu.symm
 rw [decide_eq_false h1, Bool.false_or] at hu
 rcases Decidable.em (200 < cnt d) with h2 | h2
 ·rw [decide_eq_true h2] at hu
  (repeat ((first | with_reducible refine ln fun _ _ _ => ?_ | refine tt ?_ | refine ff ?_ | refine tt ?_ rfl | with_reducible refine wr fun _ _ => ?_ | refine rp fun _ _ _ => ?_ | with_reducible refine bq ?_ | refine cl ?_ | refine sd ?_); cbv)); exact hu.symm
 ·rw [decide_eq_false h2] at hu
  (repeat ((first | with_reducible refine ln fun _ _ _ => ?_ | refine tt ?_ | refine ff ?_ | refine tt ?_ rfl | with_reducible refine wr fun _ _ => ?_ | refine rp fun _ _ _ => ?_ | with_reducible refine bq ?_ | refine cl ?_ | refine sd ?_); cbv)); exact hu.symm⟩
theorem long_ok : SoundF Tryz.prog 45 (overR 70) := sound [] orc_nil Tryz.func45 (by kernel_rfl) (by kernel_rfl) fun us u hR => ⟨0, fun C E hC => by
 obtain ⟨⟨s, l, d⟩, rfl, hu⟩ := hR
 unfold overQ at hu
 dsimp only at hu
 cbv
 rcases Decidable.em (70 < cnt l) with h1 | h1
 ·rw [decide_eq_true h1, Bool.true_or] at hu
  (repeat ((first | with_reducible refine ln fun _ _ _ => ?_ | refine tt ?_ | refine ff ?_ | refine tt ?_ rfl | with_reducible refine wr fun _ _ => ?_ | refine rp fun _ _ _ => ?_ | with_reducible refine bq ?_ | refine cl ?_ | refine sd ?_); cbv)); exact hu.symm
 rw [decide_eq_false h1, Bool.false_or] at hu
 rcases Decidable.em (70 < cnt d) with h2 | h2
 ·rw [decide_eq_true h2] at hu
  (repeat ((first | with_reducible refine ln fun _ _ _ => ?_ | refine tt ?_ | refine ff ?_ | refine tt ?_ rfl | with_reducible refine wr fun _ _ => ?_ | refine rp fun _ _ _ => ?_ | with_reducible refine bq ?_ | refine cl ?_ | refine sd ?_); cbv)); exact hu.symm
 ·rw [decide_eq_false h2] at hu
  (repeat ((first | with_reducible refine ln fun _ _ _ => ?_ | refine tt ?_ | refine ff ?_ | refine tt ?_ rfl | with_reducible refine wr fun _ _ => ?_ | refine rp fun _ _ _ => ?_ | with_reducible refine bq ?_ | refine cl ?_ | refine sd ?_); cbv)); exact hu.symm⟩
def limbsTo (c : List Tm) : Nat → Int
 | 0 => 0
 | i + 1 => limbsTo c i + (match c[i]? with
  | some t => cnt t.q.2.1 + cnt t.q.2.2
  | none => 0)
def largeC (c : List Tm) : Bool := decide (400 < cnt c) || (c.any fun t => overQ 200 t.q) || decide (2000 < limbsTo c c.length)
theorem limbs_next {c : List Tm} {i : Int} {t : Tm} (h0 : 0 ≤ i) (ht : c[i.toNat]? = some t) : limbsTo c (i + 1).toNat = limbsTo c i.toNat + (cnt t.q.2.1 + cnt t.q.2.2) := by
 rw [show (i + 1).toNat = i.toNat + 1 by omega, limbsTo, ht]
def largeCR (us : List U) (u : U) : Prop := ∃ c, cnt c ≤ 9223372036854775807 ∧ us = [cU c] ∧ u = ub (largeC c)
theorem any_upto {α : Type} {c : List α} {f : α → Bool} {i : Int} {t : α} (h0 : 0 ≤ i) (ht : c[i.toNat]? = some t) (hf : f t = false) (h : ∀ (x : Nat) t, (x : Int) < i → c[x]? = some t → f t = false) : ∀ (x : Nat) t, (x : Int) < i + 1 → c[x]? = some t → f t = false := fun x t' hx hx' => by
 by_cases e : (x : Int) = i
 ·rw [show x = i.toNat by omega, ht] at hx'
  injection hx' with hx'
  rw [← hx']
  exact hf
 ·exact h x t' (by omega) hx'
theorem any_yes {α : Type} {c : List α} {f : α → Bool} {i : Int} {t : α} (ht : c[i.toNat]? = some t) (hf : f t = true) : c.any f = true := List.any_eq_true.2 ⟨t, List.mem_of_getElem? ht, hf⟩
theorem any_no {α : Type} {c : List α} {f : α → Bool} (h : ∀ (x : Nat) t, (x : Int) < cnt c → c[x]? = some t → f t = false) : c.any f = false := by
 rw [Bool.eq_false_iff]
 intro hh
 obtain ⟨t, ht, hf⟩ := List.any_eq_true.1 hh
 obtain ⟨x, hx, rfl⟩ := List.mem_iff_getElem.1 ht
 rw [h x _ (by unfold cnt; omega) (List.getElem?_eq_getElem hx)] at hf
 cases hf
theorem largeC_ok : SoundF Tryz.prog 8 largeCR := sound [(32, overR 200)] (orc_cons large_ok orc_nil) Tryz.func8 (by kernel_rfl) (by kernel_rfl) fun us u hR => by
 obtain ⟨c, hn, rfl, hu⟩ := hR
 obtain ⟨r, hr⟩ : ∃ r, (cnt c).toNat < r := ⟨_, Nat.lt_succ_self _⟩
 refine ⟨r, fun C E hC => ?_⟩
 have kt : ∀ q : R3, C 32 [.agg [ub q.1, .l q.2.1, .l q.2.2]] (ub (overQ 200 q)) := fun q => hC 32 (overR 200) (by simp) _ _ ⟨q, rfl, rfl⟩
 have hm := fun i (h0 : 0 ≤ i) (h1 : i < cnt c) => nth_map (c := c) tU h0 h1
 have hc := cnt_map c tU
 have hc0 := cnt0 c
 unfold largeC at hu
 unfold cU
 generalize c.map tU = xs at *
 cbv
 rcases Decidable.em (400 < cnt c) with h4 | h4
 ·rw [decide_eq_true h4, Bool.true_or, Bool.true_or] at hu
  (repeat ((first | with_reducible refine ln fun _ _ _ => ?_ | refine tt ?_ | refine ff ?_ | refine tt ?_ rfl | with_reducible refine wr fun _ _ => ?_ | refine rp fun _ _ _ => ?_ | with_reducible refine bq ?_ | refine cl ?_ | refine sd ?_); cbv))
  exact hu.symm
 rw [decide_eq_false h4, Bool.false_or] at hu
 (repeat ((first | with_reducible refine ln fun _ _ _ => ?_ | refine tt ?_ | refine ff ?_ | refine tt ?_ rfl | with_reducible refine wr fun _ _ => ?_ | refine rp fun _ _ _ => ?_ | with_reducible refine bq ?_ | refine cl ?_ | refine sd ?_); cbv))
 refine lets [0, 3, 4] ?_
 cbv
 refine loop_inv (fun j a h => ∃ i n : Int, 0 ≤ i ∧ i ≤ cnt c ∧ j = (cnt c - i).toNat ∧ (∀ (x : Nat) t, (x : Int) < i → c[x]? = some t → overQ 200 t.q = false) ∧ n = limbsTo c i.toNat ∧ 0 ≤ n ∧ n ≤ 400 * i ∧ a = [.s 7 xs, .lost, .lost, ui n, ui i, .lost, .lost, .lost, .lost, .lost, .lost, .lost, .lost, .lost, .lost, .lost, .lost, .lost, .lost, .lost, .lost, .lost, .lost, .lost, .lost, .lost, .lost, .lost, .lost, .lost, .lost, .lost, .lost, .lost, .lost, .lost, .lost, .lost, .lost, .lost] ∧ h = []) ?_ r (cnt c).toNat _ _ hr ⟨0, 0, by omega, by omega, by omega, fun x t hx _ => absurd hx (by omega), rfl, by omega, by omega, rfl, rfl⟩
 rintro j a h K ⟨i, n, i0, i1, hj, hg, hl, n0, n1, rfl, rfl⟩ hK
 rcases Decidable.em (i < cnt c) with hlt | hlt
 ·obtain ⟨t, ht, hx⟩ := hm i i0 hlt
  have k1 := kt t.q
  have hnx := limbs_next i0 ht
  have hg1 := fun hf => any_upto (f := fun t => overQ 200 t.q) i0 ht hf hg
  have hg2 : overQ 200 t.q = true → (c.any fun t => overQ 200 t.q) = true := fun hf => any_yes (f := fun t => overQ 200 t.q) ht hf
  obtain ⟨kd, ta, tb, m, s, l, d⟩ := t
  have hov : overQ 200 (s, l, d) = false → cnt l ≤ 200 ∧ cnt d ≤ 200 := fun h => by
   unfold overQ at h
   simp only [Bool.or_eq_false_iff, decide_eq_false_iff_not] at h
   have h1 : ¬ 200 < cnt l := h.1
   have h2 : ¬ 200 < cnt d := h.2
   omega
  dsimp only at k1 hg1 hg2 hnx
  generalize overQ 200 (s, l, d) = g at *
  clear hm hg kt
  cases g
  ·have hov := hov rfl
   have hg1 := hg1 rfl
   have l0 := cnt0 l
   have d0 := cnt0 d
   clear hg2
   cbv
   (repeat ((first | with_reducible refine ln fun _ _ _ => ?_ | refine tt ?_ | refine ff ?_ | refine tt ?_ rfl | with_reducible refine wr fun _ _ => ?_ | refine rp fun _ _ _ => ?_ | with_reducible refine bq ?_ | refine cl ?_ | refine sd ?_); cbv))
   refine el ?_ (by omega) hx
   cbv
   (repeat ((first | with_reducible refine ln fun _ _ _ => ?_ | refine tt ?_ | refine ff ?_ | refine tt ?_ rfl | with_reducible refine wr fun _ _ => ?_ | refine rp fun _ _ _ => ?_ | with_reducible refine bq ?_ | refine cl ?_ | refine sd ?_); cbv))
   refine el ?_ (by omega) hx
   cbv
   (repeat ((first | with_reducible refine ln fun _ _ _ => ?_ | refine tt ?_ | refine ff ?_ | refine tt ?_ rfl | with_reducible refine wr fun _ _ => ?_ | refine rp fun _ _ _ => ?_ | with_reducible refine bq ?_ | refine cl ?_ | refine sd ?_); cbv))
   refine el ?_ (by omega) hx
   cbv
   (repeat ((first | with_reducible refine ln fun _ _ _ => ?_ | refine tt ?_ | refine ff ?_ | refine tt ?_ rfl | with_reducible refine wr fun _ _ => ?_ | refine rp fun _ _ _ => ?_ | with_reducible refine bq ?_ | refine cl ?_ | refine sd ?_); cbv))
   rename_i n' hn' i' hi'
   refine lets [0, 3, 4] ?_
   exact hK (cnt c - (i + 1)).toNat _ _ (by omega) ⟨i + 1, n', by omega, by omega, rfl, hg1, by omega, by omega, by omega, by rw [hi']; rfl, rfl⟩
  ·rw [hg2 rfl, Bool.true_or] at hu
   clear hg1 hg2 hov hK
   cbv
   (repeat ((first | with_reducible refine ln fun _ _ _ => ?_ | refine tt ?_ | refine ff ?_ | refine tt ?_ rfl | with_reducible refine wr fun _ _ => ?_ | refine rp fun _ _ _ => ?_ | with_reducible refine bq ?_ | refine cl ?_ | refine sd ?_); cbv))
   refine el ?_ (by omega) hx
   cbv
   (repeat ((first | with_reducible refine ln fun _ _ _ => ?_ | refine tt ?_ | refine ff ?_ | refine tt ?_ rfl | with_reducible refine wr fun _ _ => ?_ | refine rp fun _ _ _ => ?_ | with_reducible refine bq ?_ | refine cl ?_ | refine sd ?_); cbv))
   exact hu.symm
 ·rw [any_no (f := fun t => overQ 200 t.q) fun x t hx => hg x t (by omega), Bool.false_or, show c.length = i.toNat by unfold cnt at *; omega, ← hl] at hu
  clear hg hm kt hK
  cbv
  rcases Decidable.em (2000 < n) with h5 | h5
  ·rw [decide_eq_true h5] at hu
   (repeat ((first | with_reducible refine ln fun _ _ _ => ?_ | refine tt ?_ | refine ff ?_ | refine tt ?_ rfl | with_reducible refine wr fun _ _ => ?_ | refine rp fun _ _ _ => ?_ | with_reducible refine bq ?_ | refine cl ?_ | refine sd ?_); cbv)); exact hu.symm
  ·rw [decide_eq_false h5] at hu
   (repeat ((first | with_reducible refine ln fun _ _ _ => ?_ | refine tt ?_ | refine ff ?_ | refine tt ?_ rfl | with_reducible refine wr fun _ _ => ?_ | refine rp fun _ _ _ => ?_ | with_reducible refine bq ?_ | refine cl ?_ | refine sd ?_); cbv)); exact hu.symm
def longL (xs : List R3) : Bool := ((xs.take 101).any (overQ 70)) || decide (100 < cnt xs)
def longLR (us : List U) (u : U) : Prop := ∃ xs, cnt xs ≤ 9223372036854775807 ∧ us = [qsU xs] ∧ u = ub (longL xs)
theorem longL_ok : SoundF Tryz.prog 17 longLR := sound [(45, overR 70)] (orc_cons long_ok orc_nil) Tryz.func17 (by kernel_rfl) (by kernel_rfl) fun us u hR => by
 obtain ⟨c, hn, rfl, hu⟩ := hR
 refine ⟨1000, fun C E hC => ?_⟩
 obtain ⟨r, hr⟩ : ∃ r, r = 1000 := ⟨_, rfl⟩
 rw [← hr]
 have kt : ∀ q : R3, C 45 [.agg [ub q.1, .l q.2.1, .l q.2.2]] (ub (overQ 70 q)) := fun q => hC 45 (overR 70) (by simp) _ _ ⟨q, rfl, rfl⟩
 have hm := fun i (h0 : 0 ≤ i) (h1 : i < cnt c) => nth_map (c := c) qU h0 h1
 have hc := cnt_map c qU
 have hc0 := cnt0 c
 unfold longL at hu
 unfold qsU
 generalize c.map qU = xs at *
 cbv
 (repeat ((first | with_reducible refine ln fun _ _ _ => ?_ | refine tt ?_ | refine ff ?_ | refine tt ?_ rfl | with_reducible refine wr fun _ _ => ?_ | refine rp fun _ _ _ => ?_ | with_reducible refine bq ?_ | refine cl ?_ | refine sd ?_); cbv))
 refine lets [0, 3] ?_
 cbv
 refine loop_inv (fun j a h => ∃ i : Int, 0 ≤ i ∧ i ≤ cnt c ∧ i ≤ 101 ∧ j = (101 - i).toNat ∧ (∀ (x : Nat) t, (x : Int) < i → c[x]? = some t → overQ 70 t = false) ∧ a = [.s 3 xs, .lost, .lost, ui i, .lost, .lost, .lost, .lost, .lost, .lost, .lost, .lost, .lost, .lost, .lost, .lost, .lost, .lost, .lost, .lost, .lost, .lost] ∧ h = []) ?_ r 101 _ _ (by omega) ⟨0, by omega, by omega, by omega, by omega, fun x t hx _ => absurd hx (by omega), rfl, rfl⟩
 rintro j a h K ⟨i, i0, i1, i2, hj, hg, rfl, rfl⟩ hK
 rcases Decidable.em (i < cnt c ∧ i ≤ 100) with hlt | hlt
 ·obtain ⟨⟨s, l, d⟩, ht, hx⟩ := hm i i0 hlt.1
  have k1 := kt (s, l, d)
  have hg1 := fun hf => any_upto (f := overQ 70) i0 ht hf hg
  have hg2 : overQ 70 (s, l, d) = true → ((c.take 101).any (overQ 70)) = true := fun hf => any_yes (f := overQ 70) (i := i) (by rw [List.getElem?_take, if_pos (by omega), ht]) hf
  dsimp only at k1
  generalize overQ 70 (s, l, d) = g at *
  clear hm hg kt
  cases g
  ·have hg1 := hg1 rfl
   clear hg2
   cbv
   (repeat ((first | with_reducible refine ln fun _ _ _ => ?_ | refine tt ?_ | refine ff ?_ | refine tt ?_ rfl | with_reducible refine wr fun _ _ => ?_ | refine rp fun _ _ _ => ?_ | with_reducible refine bq ?_ | refine cl ?_ | refine sd ?_); cbv))
   refine el ?_ (by omega) hx
   cbv
   (repeat ((first | with_reducible refine ln fun _ _ _ => ?_ | refine tt ?_ | refine ff ?_ | refine tt ?_ rfl | with_reducible refine wr fun _ _ => ?_ | refine rp fun _ _ _ => ?_ | with_reducible refine bq ?_ | refine cl ?_ | refine sd ?_); cbv))
   rename_i i' hi'
   refine lets [0, 3] ?_
   exact hK (101 - (i + 1)).toNat _ _ (by omega) ⟨i + 1, by omega, by omega, by omega, rfl, hg1, by rw [hi']; rfl, rfl⟩
  ·rw [hg2 rfl, Bool.true_or] at hu
   clear hg1 hg2 hK
   cbv
   (repeat ((first | with_reducible refine ln fun _ _ _ => ?_ | refine tt ?_ | refine ff ?_ | refine tt ?_ rfl | with_reducible refine wr fun _ _ => ?_ | refine rp fun _ _ _ => ?_ | with_reducible refine bq ?_ | refine cl ?_ | refine sd ?_); cbv))
   refine el ?_ (by omega) hx
   cbv
   (repeat ((first | with_reducible refine ln fun _ _ _ => ?_ | refine tt ?_ | refine ff ?_ | refine tt ?_ rfl | with_reducible refine wr fun _ _ => ?_ | refine rp fun _ _ _ => ?_ | with_reducible refine bq ?_ | refine cl ?_ | refine sd ?_); cbv))
   exact hu.symm
 ·have hno : ((c.take 101).any (overQ 70)) = false := any_no (f := overQ 70) fun x t hx hx' => by
   rw [List.getElem?_take] at hx'
   split at hx'
   ·rename_i h101
    have := (List.getElem?_eq_some_iff.1 hx').1
    exact hg x t (by unfold cnt at *; omega) hx'
   ·cases hx'
  rw [hno, Bool.false_or] at hu
  clear hg hm kt hK hno
  cbv
  rcases Decidable.em (100 < cnt c) with h5 | h5
  ·rw [decide_eq_true h5] at hu
   rcases Decidable.em (i < cnt c) with h6 | h6 <;> ((repeat ((first | with_reducible refine ln fun _ _ _ => ?_ | refine tt ?_ | refine ff ?_ | refine tt ?_ rfl | with_reducible refine wr fun _ _ => ?_ | refine rp fun _ _ _ => ?_ | with_reducible refine bq ?_ | refine cl ?_ | refine sd ?_); cbv)); exact hu.symm)
  ·rw [decide_eq_false h5] at hu
   have h6 : ¬ i < cnt c := fun h => hlt ⟨h, by omega⟩
   (repeat ((first | with_reducible refine ln fun _ _ _ => ?_ | refine tt ?_ | refine ff ?_ | refine tt ?_ rfl | with_reducible refine wr fun _ _ => ?_ | refine rp fun _ _ _ => ?_ | with_reducible refine bq ?_ | refine cl ?_ | refine sd ?_); cbv)); exact hu.symm
def tameB (c : List Tm) (xs : List R3) : Bool := !(c.any fun t => overQ 4 t.q) && (!(xs.any (overQ 4)) && decide (cnt c ≤ 60))
def tameR (us : List U) (u : U) : Prop := ∃ c xs, cnt c ≤ 9223372036854775807 ∧ cnt xs ≤ 9223372036854775807 ∧ us = [cU c, qsU xs] ∧ u = ub (tameB c xs)
theorem over_4 {s : Bool} {l d : List Int} : (overQ 4 (s, l, d) = true ↔ 4 < cnt l ∨ 4 < cnt d) := by
 unfold overQ
 simp
theorem tame_ok : SoundF Tryz.prog 18 tameR := sound [] orc_nil Tryz.func18 (by kernel_rfl) (by kernel_rfl) fun us u hR => by
 obtain ⟨c, xs, hn, hxn, rfl, hu⟩ := hR
 obtain ⟨r, hr⟩ : ∃ r, (cnt c).toNat + (cnt xs).toNat < r := ⟨_, Nat.lt_succ_self _⟩
 refine ⟨r, fun C E hC => ?_⟩
 have hm := fun i (h0 : 0 ≤ i) (h1 : i < cnt c) => nth_map (c := c) tU h0 h1
 have hmx := fun i (h0 : 0 ≤ i) (h1 : i < cnt xs) => nth_map (c := xs) qU h0 h1
 have hc := cnt_map c tU
 have hxc := cnt_map xs qU
 have hc0 := cnt0 c
 have hx0 := cnt0 xs
 unfold tameB at hu
 unfold cU qsU
 generalize c.map tU = cs at *
 generalize xs.map qU = ys at *
 cbv
 (repeat ((first | with_reducible refine ln fun _ _ _ => ?_ | refine tt ?_ | refine ff ?_ | refine tt ?_ rfl | with_reducible refine wr fun _ _ => ?_ | refine rp fun _ _ _ => ?_ | with_reducible refine bq ?_ | refine cl ?_ | refine sd ?_); cbv))
 refine lets [0, 1, 5] ?_
 cbv
 refine loop_inv (fun j a h => ∃ i : Int, 0 ≤ i ∧ i ≤ cnt c ∧ j = (cnt c - i).toNat ∧ (∀ (x : Nat) t, (x : Int) < i → c[x]? = some t → overQ 4 t.q = false) ∧ a = [.s 7 cs, .s 3 ys, .lost, .lost, .lost, ui i, .lost, .lost, .lost, .lost, .lost, .lost, .lost, .lost, .lost, .lost, .lost, .lost, .lost, .lost, .lost, .lost, .lost, .lost, .lost, .lost, .lost, .lost, .lost, .lost, .lost, .lost, .lost, .lost, .lost, .lost, .lost, .lost, .lost, .lost, .lost, .lost, .lost, .lost, .lost, .lost, .lost, .lost, .lost, .lost, .lost, .lost, .lost, .lost, .lost, .lost, .lost, .lost] ∧ h = []) ?_ r (cnt c).toNat _ _ (by omega) ⟨0, by omega, by omega, by omega, fun x t hx _ => absurd hx (by omega), rfl, rfl⟩
 rintro j a h K ⟨i, i0, i1, hj, hg, rfl, rfl⟩ hK
 rcases Decidable.em (i < cnt c) with hlt | hlt
 ·obtain ⟨t, ht, hx⟩ := hm i i0 hlt
  have hg1 := fun hf => any_upto (f := fun t => overQ 4 t.q) i0 ht hf hg
  have hg2 : overQ 4 t.q = true → (c.any fun t => overQ 4 t.q) = true := fun hf => any_yes (f := fun t => overQ 4 t.q) ht hf
  obtain ⟨kd, ta, tb, m, s, l, d⟩ := t
  dsimp only at hg1 hg2
  have ho := over_4 (s := s) (l := l) (d := d)
  generalize overQ 4 (s, l, d) = g at *
  clear hm hmx hg
  rcases Decidable.em (4 < cnt l) with h1 | h1
  ·rw [hg2 (ho.2 (.inl h1)), Bool.not_true, Bool.false_and] at hu
   clear hg1 hg2 hK ho
   cbv
   (repeat ((first | with_reducible refine ln fun _ _ _ => ?_ | refine tt ?_ | refine ff ?_ | refine tt ?_ rfl | with_reducible refine wr fun _ _ => ?_ | refine rp fun _ _ _ => ?_ | with_reducible refine bq ?_ | refine cl ?_ | refine sd ?_); cbv))
   refine el ?_ (by omega) hx
   cbv
   (repeat ((first | with_reducible refine ln fun _ _ _ => ?_ | refine tt ?_ | refine ff ?_ | refine tt ?_ rfl | with_reducible refine wr fun _ _ => ?_ | refine rp fun _ _ _ => ?_ | with_reducible refine bq ?_ | refine cl ?_ | refine sd ?_); cbv))
   exact hu.symm
  rcases Decidable.em (4 < cnt d) with h2 | h2
  ·rw [hg2 (ho.2 (.inr h2)), Bool.not_true, Bool.false_and] at hu
   clear hg1 hg2 hK ho
   cbv
   (repeat ((first | with_reducible refine ln fun _ _ _ => ?_ | refine tt ?_ | refine ff ?_ | refine tt ?_ rfl | with_reducible refine wr fun _ _ => ?_ | refine rp fun _ _ _ => ?_ | with_reducible refine bq ?_ | refine cl ?_ | refine sd ?_); cbv))
   refine el ?_ (by omega) hx
   cbv
   (repeat ((first | with_reducible refine ln fun _ _ _ => ?_ | refine tt ?_ | refine ff ?_ | refine tt ?_ rfl | with_reducible refine wr fun _ _ => ?_ | refine rp fun _ _ _ => ?_ | with_reducible refine bq ?_ | refine cl ?_ | refine sd ?_); cbv))
   refine el ?_ (by omega) hx
   cbv
   (repeat ((first | with_reducible refine ln fun _ _ _ => ?_ | refine tt ?_ | refine ff ?_ | refine tt ?_ rfl | with_reducible refine wr fun _ _ => ?_ | refine rp fun _ _ _ => ?_ | with_reducible refine bq ?_ | refine cl ?_ | refine sd ?_); cbv))
   exact hu.symm
  ·have hg1 := hg1 (by cases g; rfl; exact absurd (ho.1 rfl) (by omega))
   clear hg2 ho
   cbv
   (repeat ((first | with_reducible refine ln fun _ _ _ => ?_ | refine tt ?_ | refine ff ?_ | refine tt ?_ rfl | with_reducible refine wr fun _ _ => ?_ | refine rp fun _ _ _ => ?_ | with_reducible refine bq ?_ | refine cl ?_ | refine sd ?_); cbv))
   refine el ?_ (by omega) hx
   cbv
   (repeat ((first | with_reducible refine ln fun _ _ _ => ?_ | refine tt ?_ | refine ff ?_ | refine tt ?_ rfl | with_reducible refine wr fun _ _ => ?_ | refine rp fun _ _ _ => ?_ | with_reducible refine bq ?_ | refine cl ?_ | refine sd ?_); cbv))
   refine el ?_ (by omega) hx
   cbv
   (repeat ((first | with_reducible refine ln fun _ _ _ => ?_ | refine tt ?_ | refine ff ?_ | refine tt ?_ rfl | with_reducible refine wr fun _ _ => ?_ | refine rp fun _ _ _ => ?_ | with_reducible refine bq ?_ | refine cl ?_ | refine sd ?_); cbv))
   rename_i i' hi'
   refine lets [0, 1, 5] ?_
   exact hK (cnt c - (i + 1)).toNat _ _ (by omega) ⟨i + 1, by omega, by omega, rfl, hg1, by rw [hi']; rfl, rfl⟩
 rw [any_no (f := fun t => overQ 4 t.q) fun x t hx => hg x t (by omega), Bool.not_false, Bool.true_and] at hu
 clear hg hm hK
 cbv
 (repeat ((first | with_reducible refine ln fun _ _ _ => ?_ | refine tt ?_ | refine ff ?_ | refine tt ?_ rfl | with_reducible refine wr fun _ _ => ?_ | refine rp fun _ _ _ => ?_ | with_reducible refine bq ?_ | refine cl ?_ | refine sd ?_); cbv))
 refine lets [0, 1, 6] ?_
 cbv
 refine loop_inv (fun j a h => ∃ i : Int, 0 ≤ i ∧ i ≤ cnt xs ∧ j = (cnt xs - i).toNat ∧ (∀ (x : Nat) t, (x : Int) < i → xs[x]? = some t → overQ 4 t = false) ∧ a = [.s 7 cs, .s 3 ys, .lost, .lost, .lost, .lost, ui i, .lost, .lost, .lost, .lost, .lost, .lost, .lost, .lost, .lost, .lost, .lost, .lost, .lost, .lost, .lost, .lost, .lost, .lost, .lost, .lost, .lost, .lost, .lost, .lost, .lost, .lost, .lost, .lost, .lost, .lost, .lost, .lost, .lost, .lost, .lost, .lost, .lost, .lost, .lost, .lost, .lost, .lost, .lost, .lost, .lost, .lost, .lost, .lost, .lost, .lost, .lost] ∧ h = []) ?_ r (cnt xs).toNat _ _ (by omega) ⟨0, by omega, by omega, by omega, fun x t hx _ => absurd hx (by omega), rfl, rfl⟩
 rintro j2 a h K2 ⟨p, p0, p1, hj2, hg, rfl, rfl⟩ hK
 rcases Decidable.em (p < cnt xs) with hlt2 | hlt2
 ·obtain ⟨⟨s, l, d⟩, ht, hx⟩ := hmx p p0 hlt2
  have hg1 := fun hf => any_upto (f := overQ 4) p0 ht hf hg
  have hg2 : overQ 4 (s, l, d) = true → (xs.any (overQ 4)) = true := fun hf => any_yes (f := overQ 4) ht hf
  have ho := over_4 (s := s) (l := l) (d := d)
  generalize overQ 4 (s, l, d) = g at *
  clear hmx hg
  rcases Decidable.em (4 < cnt l) with h1 | h1
  ·rw [hg2 (ho.2 (.inl h1)), Bool.not_true, Bool.false_and] at hu
   clear hg1 hg2 hK ho
   cbv
   (repeat ((first | with_reducible refine ln fun _ _ _ => ?_ | refine tt ?_ | refine ff ?_ | refine tt ?_ rfl | with_reducible refine wr fun _ _ => ?_ | refine rp fun _ _ _ => ?_ | with_reducible refine bq ?_ | refine cl ?_ | refine sd ?_); cbv))
   refine el ?_ (by omega) hx
   cbv
   (repeat ((first | with_reducible refine ln fun _ _ _ => ?_ | refine tt ?_ | refine ff ?_ | refine tt ?_ rfl | with_reducible refine wr fun _ _ => ?_ | refine rp fun _ _ _ => ?_ | with_reducible refine bq ?_ | refine cl ?_ | refine sd ?_); cbv))
   exact hu.symm
  rcases Decidable.em (4 < cnt d) with h2 | h2
  ·rw [hg2 (ho.2 (.inr h2)), Bool.not_true, Bool.false_and] at hu
   clear hg1 hg2 hK ho
   cbv
   (repeat ((first | with_reducible refine ln fun _ _ _ => ?_ | refine tt ?_ | refine ff ?_ | refine tt ?_ rfl | with_reducible refine wr fun _ _ => ?_ | refine rp fun _ _ _ => ?_ | with_reducible refine bq ?_ | refine cl ?_ | refine sd ?_); cbv))
   refine el ?_ (by omega) hx
   cbv
   (repeat ((first | with_reducible refine ln fun _ _ _ => ?_ | refine tt ?_ | refine ff ?_ | refine tt ?_ rfl | with_reducible refine wr fun _ _ => ?_ | refine rp fun _ _ _ => ?_ | with_reducible refine bq ?_ | refine cl ?_ | refine sd ?_); cbv))
   refine el ?_ (by omega) hx
   cbv
   (repeat ((first | with_reducible refine ln fun _ _ _ => ?_ | refine tt ?_ | refine ff ?_ | refine tt ?_ rfl | with_reducible refine wr fun _ _ => ?_ | refine rp fun _ _ _ => ?_ | with_reducible refine bq ?_ | refine cl ?_ | refine sd ?_); cbv))
   exact hu.symm
  ·have hg1 := hg1 (by cases g; rfl; exact absurd (ho.1 rfl) (by omega))
   clear hg2 ho
   cbv
   (repeat ((first | with_reducible refine ln fun _ _ _ => ?_ | refine tt ?_ | refine ff ?_ | refine tt ?_ rfl | with_reducible refine wr fun _ _ => ?_ | refine rp fun _ _ _ => ?_ | with_reducible refine bq ?_ | refine cl ?_ | refine sd ?_); cbv))
   refine el ?_ (by omega) hx
   cbv
   (repeat ((first | with_reducible refine ln fun _ _ _ => ?_ | refine tt ?_ | refine ff ?_ | refine tt ?_ rfl | with_reducible refine wr fun _ _ => ?_ | refine rp fun _ _ _ => ?_ | with_reducible refine bq ?_ | refine cl ?_ | refine sd ?_); cbv))
   refine el ?_ (by omega) hx
   cbv
   (repeat ((first | with_reducible refine ln fun _ _ _ => ?_ | refine tt ?_ | refine ff ?_ | refine tt ?_ rfl | with_reducible refine wr fun _ _ => ?_ | refine rp fun _ _ _ => ?_ | with_reducible refine bq ?_ | refine cl ?_ | refine sd ?_); cbv))
   rename_i i' hi'
   refine lets [0, 1, 6] ?_
   exact hK (cnt xs - (p + 1)).toNat _ _ (by omega) ⟨p + 1, by omega, by omega, rfl, hg1, by rw [hi']; rfl, rfl⟩
 ·rw [any_no (f := overQ 4) fun x t hx => hg x t (by omega), Bool.not_false, Bool.true_and] at hu
  clear hg hmx hK
  cbv
  rcases Decidable.em (cnt c ≤ 60) with h5 | h5
  ·rw [decide_eq_true h5] at hu
   (repeat ((first | with_reducible refine ln fun _ _ _ => ?_ | refine tt ?_ | refine ff ?_ | refine tt ?_ rfl | with_reducible refine wr fun _ _ => ?_ | refine rp fun _ _ _ => ?_ | with_reducible refine bq ?_ | refine cl ?_ | refine sd ?_); cbv)); exact hu.symm
  ·rw [decide_eq_false h5] at hu
   (repeat ((first | with_reducible refine ln fun _ _ _ => ?_ | refine tt ?_ | refine ff ?_ | refine tt ?_ rfl | with_reducible refine wr fun _ _ => ?_ | refine rp fun _ _ _ => ?_ | with_reducible refine bq ?_ | refine cl ?_ | refine sd ?_); cbv)); exact hu.symm
def noneLR (us : List U) (u : U) : Prop := ∃ c k0 k1 xs, (∀ t ∈ c, TmOk t) ∧ cnt c ≤ 9223372036854775807 ∧ 0 ≤ k0 ∧ k0 ≤ 255 ∧ 0 ≤ k1 ∧ k1 ≤ 255 ∧ (∀ a ∈ xs, LB a) ∧ cnt xs ≤ 9223372036854775807 ∧ us = [cU c, .agg [.v (.int .u8 k0), .v (.int .u8 k1)], qsU xs] ∧ u = ub true
theorem tmod_at {x n r : Int} (h0 : 0 ≤ x) (hn : 0 < n) (h : r = Int.tmod x n) : 0 ≤ r ∧ r < n := by
 rw [Int.tmod_eq_emod_of_nonneg h0] at h
 rw [h]
 exact ⟨Int.emod_nonneg _ (by omega), Int.emod_lt_of_pos _ hn⟩
theorem derU_bad (x : Int) (h : x ≠ 0) : derU ([], 0, x) = .tup [nilU, ui 0, ui x] := by unfold derU; rw [if_neg h]
theorem derU_good (D : List Tm) (k : Int) : derU (D, k, 0) = .tup [.s 7 (D.map tU), ui k, ui 0] := by unfold derU cU; rw [if_pos rfl]
theorem der_cases {c : List Tm} {i s : Int} (hm : mayC c i = true) (hs : 0 ≤ s) (hn : cnt c ≤ 60) (hq : ∀ t ∈ c, LB t.q) : ∃ b, (leanN c s c.length)[i.toNat]? = some b ∧ (derS c i s = ([], 0, 2) ∨
  ∃ (D : List Tm) (k : Int), derS c i s = (D, k, 0) ∧ (∀ t ∈ D, LB t.q) ∧ i + 1 ≤ k ∧ k < cnt D ∧ cnt D ≤ 1000 ∧ (b = false → ofS D k [] = to4 (ratOf 0)) ∧ (b = true → (∃ t, c[i.toNat]? = some t ∧ t.k = 2) → ofS D k [] = to4 (ratOf 1))) := by
 have hm' := hm
 unfold mayC at hm'
 simp only [Bool.and_eq_true, decide_eq_true_eq] at hm'
 obtain ⟨⟨h0, h1⟩, hg⟩ := hm'
 have hll := leanN_len c s c.length
 have hlt : i.toNat < (leanN c s c.length).length := by unfold cnt at *; omega
 refine ⟨(leanN c s c.length)[i.toNat], List.getElem?_eq_getElem hlt, ?_⟩
 obtain ⟨b, hb⟩ : ∃ b, (leanN c s c.length)[i.toNat] = b := ⟨_, rfl⟩
 have hb' : (leanN c s c.length)[i.toNat]? = some b := by rw [List.getElem?_eq_getElem hlt, hb]
 rw [hb]
 have hcnt : cnt (derAll c i s).1 ≤ 400 := by
  have := der_cnt c (leanN c s c.length) (needs c i.toNat) (i.toNat + 1) (i.toNat + 1)
  unfold derAll
  push_cast at this
  omega
 have hLB : ∀ t ∈ (derAll c i s).1, LB t.q := der_LB hg hq _
 unfold derS
 rw [if_pos ⟨hm, hs⟩, bAt_of hb']
 cases hbad : (derAll c i s).2.2
 case true =>
  left
  cases b
  ·rw [if_neg (by simp), if_pos (.inl rfl)]
  ·rw [if_pos rfl, if_pos (.inl rfl)]
 right
 have hinv := der_inv (s := s) hg h0 h1 (i.toNat + 1) (by omega) hbad
 obtain ⟨g1, g2, g3⟩ := hinv
 cases b
 ·rw [if_neg (by simp), if_neg (by simp; omega)]
  refine ⟨_, _, rfl, fun t ht => ?_, g2, ?_, ?_, fun _ => of_lit g1 (fits_int (by omega)), fun h => (by cases h)⟩
  ·rcases List.mem_append.1 ht with ht | ht
   ·exact hLB t ht
   ·rw [List.mem_singleton.1 ht]
    exact LB_lit (by omega)
  ·rw [cnt_app]; omega
  ·rw [cnt_app]; omega
 ·rw [if_pos rfl, if_neg (by simp; omega)]
  have hd := g3 i h0 (by omega) (needs_root h0 h1) hb'
  refine ⟨_, _, rfl, hLB, hd.1, hd.2, by omega, fun h => (by cases h), fun _ ⟨t, ht, hk⟩ => ?_⟩
  have hbad' : (derN c (leanN c s c.length) (needs c i.toNat) (i.toNat + 1) i.toNat).2.2 = false := by
   have h := hbad
   unfold derAll at h
   unfold derN at h
   rw [if_pos ⟨needs_root h0 h1, hb'⟩, ht] at h
   dsimp only at h
   cases e : (derN c (leanN c s c.length) (needs c i.toNat) (i.toNat + 1) i.toNat).2.2
   ·rfl
   ·rw [e, term_bad] at h
    cases h
  obtain ⟨f1, f2, f3⟩ := der_inv (s := s) hg h0 h1 i.toNat (by omega) hbad'
  have hlen := der_len c (leanN c s c.length) (needs c i.toNat) (i.toNat + 1) i.toNat
  have e : derAll c i s = ((derN c (leanN c s c.length) (needs c i.toNat) (i.toNat + 1) i.toNat).1 ++ [litT 1], (derN c (leanN c s c.length) (needs c i.toNat) (i.toNat + 1) i.toNat).2.1.set i.toNat (cnt (derN c (leanN c s c.length) (needs c i.toNat) (i.toNat + 1) i.toNat).1), (derN c (leanN c s c.length) (needs c i.toNat) (i.toNat + 1) i.toNat).2.2) := by
   unfold derAll
   conv => lhs; unfold derN
   rw [if_pos ⟨needs_root h0 h1, hb'⟩, ht]
   dsimp only
   unfold termS
   rw [if_pos hk]
  rw [e]
  dsimp only
  rw [dAt_set h0 (by unfold cnt at hlen; omega), if_pos (by omega)]
  exact of_lit f1 (fits_int (by omega))
theorem noneL_ok : SoundF Tryz.prog 5 noneLR := sound [(8, largeCR), (17, longLR), (18, tameR), (9, yesR), (15, leansR), (11, diffOfR), (22, ofR'), (24, keepR), (26, byR)] (orc_cons largeC_ok (orc_cons longL_ok (orc_cons tame_ok (orc_cons wakes_ok (orc_cons leans_ok (orc_cons diffOf_ok (orc_cons of_ok' (orc_cons keep_ok (orc_cons by_ok orc_nil))))))))) Tryz.func5 (by kernel_rfl) (by kernel_rfl) fun us u hR => ⟨0, fun C E hC => by
 obtain ⟨c, k0, k1, xs, hq, hn, k00, k01, k10, k11, hx, hxn, rfl, hu⟩ := hR
 have hqL : ∀ t ∈ c, LB t.q := fun t h => (hq t h).q
 have kl := hC 8 largeCR (by simp) _ _ ⟨c, hn, rfl, rfl⟩
 have kx := hC 17 longLR (by simp) _ _ ⟨xs, hxn, rfl, rfl⟩
 have kt := hC 18 tameR (by simp) _ _ ⟨c, xs, hn, hxn, rfl, rfl⟩
 have kw := hC 9 yesR (by simp) _ _ ⟨rfl, rfl⟩
 have hLe := hC 15 leansR (by simp)
 have hDi := hC 11 diffOfR (by simp)
 have hOf := hC 22 ofR' (by simp)
 have kb := hC 26 byR (by simp)
 obtain ⟨s0, l0, d0, b0, e0⟩ := by_q kb 0 1 0 (by decide) (by decide +kernel) (by decide +kernel)
 obtain ⟨s1, l1, d1, b1, e1⟩ := by_q kb 1 1 1 (by decide) (by decide +kernel) (by decide +kernel)
 have r0 := hC 24 keepR (by simp) _ _ ⟨(s0, l0, d0), (s0, l0, d0), by rw [e0]; decide +kernel, by rw [e0]; decide +kernel, rfl, rfl⟩
 have r1 := hC 24 keepR (by simp) _ _ ⟨(s1, l1, d1), (s1, l1, d1), by rw [e1]; decide +kernel, by rw [e1]; decide +kernel, rfl, rfl⟩
 rw [decide_eq_true rfl] at r0 r1
 have r0 : C 24 [.agg [ub s0, .l l0, .l d0], .agg [ub s0, .l l0, .l d0]] (ub true) := r0
 have r1 : C 24 [.agg [ub s1, .l l1, .l d1], .agg [ub s1, .l l1, .l d1]] (ub true) := r1
 have hm := cnt_map c tU
 have hc0 := cnt0 c
 have hx0 := cnt0 xs
 have hcn := fun i (h0 : 0 ≤ i) (h1 : i < cnt c) => nth_map (c := c) tU h0 h1
 clear hC kb hq
 obtain ⟨cs, hcs⟩ : ∃ cs, cs = c.map tU := ⟨_, rfl⟩
 obtain ⟨ys, hys⟩ : ∃ ys, ys = xs.map qU := ⟨_, rfl⟩
 have ecU : cU c = .s 7 cs := by rw [hcs]; rfl
 have eqU : qsU xs = .s 3 ys := by rw [hys]; rfl
 rw [← hcs] at hm hcn
 rw [ecU] at kl kt ⊢
 rw [eqU] at kx kt ⊢
 generalize largeC c = g1 at *
 generalize longL xs = g2 at *
 generalize tameB c xs = g3 at *
 cases g1
 case true =>
  clear hOf hLe hDi hcn
  cbv
  (repeat ((first | with_reducible refine ln fun _ _ _ => ?_ | refine tt ?_ | refine ff ?_ | refine tt ?_ rfl | with_reducible refine wr fun _ _ => ?_ | refine rp fun _ _ _ => ?_ | with_reducible refine bq ?_ | refine cl ?_ | refine sd ?_); cbv))
  exact hu.symm
 rcases Decidable.em (cnt c = 0) with hz | hz
 ·clear hOf hLe hDi hcn
  cbv
  (repeat ((first | with_reducible refine ln fun _ _ _ => ?_ | refine tt ?_ | refine ff ?_ | refine tt ?_ rfl | with_reducible refine wr fun _ _ => ?_ | refine rp fun _ _ _ => ?_ | with_reducible refine bq ?_ | refine cl ?_ | refine sd ?_); cbv))
  exact hu.symm
 rcases Decidable.em (60 < cnt c) with h60 | h60
 ·clear hOf hLe hDi hcn
  cbv
  (repeat ((first | with_reducible refine ln fun _ _ _ => ?_ | refine tt ?_ | refine ff ?_ | refine tt ?_ rfl | with_reducible refine wr fun _ _ => ?_ | refine rp fun _ _ _ => ?_ | with_reducible refine bq ?_ | refine cl ?_ | refine sd ?_); cbv))
  exact hu.symm
 cases g2
 case true =>
  clear hOf hLe hDi hcn
  cbv
  (repeat ((first | with_reducible refine ln fun _ _ _ => ?_ | refine tt ?_ | refine ff ?_ | refine tt ?_ rfl | with_reducible refine wr fun _ _ => ?_ | refine rp fun _ _ _ => ?_ | with_reducible refine bq ?_ | refine cl ?_ | refine sd ?_); cbv))
  exact hu.symm
 cases g3
 case false =>
  clear hOf hLe hDi hcn
  cbv
  (repeat ((first | with_reducible refine ln fun _ _ _ => ?_ | refine tt ?_ | refine ff ?_ | refine tt ?_ rfl | with_reducible refine wr fun _ _ => ?_ | refine rp fun _ _ _ => ?_ | with_reducible refine bq ?_ | refine cl ?_ | refine sd ?_); cbv))
  exact hu.symm
 cbv
 (repeat ((first | with_reducible refine ln fun _ _ _ => ?_ | refine tt ?_ | refine ff ?_ | refine tt ?_ rfl | with_reducible refine wr fun _ _ => ?_ | refine rp fun _ _ _ => ?_ | with_reducible refine bq ?_ | refine cl ?_ | refine sd ?_); cbv))
 refine sd ?_ ⟨by decide, by decide⟩
 cbv
 (repeat ((first | with_reducible refine ln fun _ _ _ => ?_ | refine tt ?_ | refine ff ?_ | refine tt ?_ rfl | with_reducible refine wr fun _ _ => ?_ | refine rp fun _ _ _ => ?_ | with_reducible refine bq ?_ | refine cl ?_ | refine sd ?_); cbv))
 intro i hi
 rename_i x hx' n hn' hn''
 cbv
 (repeat ((first | with_reducible refine ln fun _ _ _ => ?_ | refine tt ?_ | refine ff ?_ | refine tt ?_ rfl | with_reducible refine wr fun _ _ => ?_ | refine rp fun _ _ _ => ?_ | with_reducible refine bq ?_ | refine cl ?_ | refine sd ?_); cbv))
 refine sd ?_ ⟨by decide, by decide⟩
 cbv
 (repeat ((first | with_reducible refine ln fun _ _ _ => ?_ | refine tt ?_ | refine ff ?_ | refine tt ?_ rfl | with_reducible refine wr fun _ _ => ?_ | refine rp fun _ _ _ => ?_ | with_reducible refine bq ?_ | refine cl ?_ | refine sd ?_); cbv))
 intro s hs
 rename_i y hy'
 cbv
 have hi := tmod_at (by omega) (by omega) hi
 have hs := tmod_at (by omega) (by omega) hs
 have o1 := hLe _ _ ⟨c, i, s, hqL, by omega, rfl, rfl⟩
 have o2 := hDi _ _ ⟨c, i, s, hqL, by omega, rfl, rfl⟩
 rw [ecU] at o1 o2
 unfold leansU at o1
 have hll := leanN_len c s c.length
 clear hLe hDi
 obtain ⟨mb, hmb⟩ : ∃ mb, mayC c i = mb := ⟨_, rfl⟩
 cases mb
 ·rw [hmb, if_neg (by simp)] at o1
  have e : derU (derS c i s) = .tup [nilU, ui 0, ui 1] := by
   unfold derS
   rw [if_neg (by rw [hmb]; simp)]
   exact derU_bad 1 (by decide)
  rw [e] at o2
  clear hOf hcn
  (repeat ((first | with_reducible refine ln fun _ _ _ => ?_ | refine tt ?_ | refine ff ?_ | refine tt ?_ rfl | with_reducible refine wr fun _ _ => ?_ | refine rp fun _ _ _ => ?_ | with_reducible refine bq ?_ | refine cl ?_ | refine sd ?_); cbv))
  exact hu.symm
 rw [hmb, if_pos rfl] at o1
 obtain ⟨b, hb, hd⟩ := der_cases hmb hs.1 (by omega) hqL
 obtain ⟨b2, hb2, hz⟩ := uB_nth (s := leanN c s c.length) hi.1 (by omega)
 rw [hb] at hb2
 injection hb2 with hb2
 subst hb2
 have hul := uB_len (leanN c s c.length)
 clear hb
 generalize uB (leanN c s c.length) = ls at *
 rcases hd with hd | ⟨D, k, hd, hDL, hk0, hk1, hk2, hv0, hv1⟩
 ·rw [hd, derU_bad 2 (by decide)] at o2
  clear hOf hcn
  (repeat ((first | with_reducible refine ln fun _ _ _ => ?_ | refine tt ?_ | refine ff ?_ | refine tt ?_ rfl | with_reducible refine wr fun _ _ => ?_ | refine rp fun _ _ _ => ?_ | with_reducible refine bq ?_ | refine cl ?_ | refine sd ?_); cbv))
  exact hu.symm
 rw [hd, derU_good] at o2
 have hDm := cnt_map D tU
 have p := hOf _ _ ⟨D, k, [], nilU, hDL, by omega, by simp, by decide, .inr ⟨rfl, 3, rfl⟩, rfl, rfl⟩
 unfold cU at p
 obtain ⟨t, ht, hy⟩ := hcn i hi.1 (by omega)
 clear hOf hcn hd hDL
 cases b
 ·rw [hv0 rfl, ← e0] at p
  have p : C 22 [.s 7 (D.map tU), ui k, nilU] (.tup [.agg [ub s0, .l l0, .l d0], ui 0]) := p
  generalize D.map tU = ds at *
  clear e0 e1 hv0 hv1 hy ht
  (repeat ((first | with_reducible refine ln fun _ _ _ => ?_ | refine tt ?_ | refine ff ?_ | refine tt ?_ rfl | with_reducible refine wr fun _ _ => ?_ | refine rp fun _ _ _ => ?_ | with_reducible refine bq ?_ | refine cl ?_ | refine sd ?_); cbv))
  refine el ?_ (by omega) hz
  cbv
  (repeat ((first | with_reducible refine ln fun _ _ _ => ?_ | refine tt ?_ | refine ff ?_ | refine tt ?_ rfl | with_reducible refine wr fun _ _ => ?_ | refine rp fun _ _ _ => ?_ | with_reducible refine bq ?_ | refine cl ?_ | refine sd ?_); cbv))
  exact hu.symm
 rcases Decidable.em (t.k = 2) with h2 | h2
 ·rw [hv1 rfl ⟨t, ht, h2⟩, ← e1] at p
  have p : C 22 [.s 7 (D.map tU), ui k, nilU] (.tup [.agg [ub s1, .l l1, .l d1], ui 0]) := p
  generalize D.map tU = ds at *
  obtain ⟨kd, ta, tb, m, ts, tl, td⟩ := t
  dsimp only at h2
  clear e0 e1 hv0 hv1 ht
  (repeat ((first | with_reducible refine ln fun _ _ _ => ?_ | refine tt ?_ | refine ff ?_ | refine tt ?_ rfl | with_reducible refine wr fun _ _ => ?_ | refine rp fun _ _ _ => ?_ | with_reducible refine bq ?_ | refine cl ?_ | refine sd ?_); cbv))
  refine el ?_ (by omega) hz
  cbv
  (repeat ((first | with_reducible refine ln fun _ _ _ => ?_ | refine tt ?_ | refine ff ?_ | refine tt ?_ rfl | with_reducible refine wr fun _ _ => ?_ | refine rp fun _ _ _ => ?_ | with_reducible refine bq ?_ | refine cl ?_ | refine sd ?_); cbv))
  refine el ?_ (by omega) hy
  cbv
  (repeat ((first | with_reducible refine ln fun _ _ _ => ?_ | refine tt ?_ | refine ff ?_ | refine tt ?_ rfl | with_reducible refine wr fun _ _ => ?_ | refine rp fun _ _ _ => ?_ | with_reducible refine bq ?_ | refine cl ?_ | refine sd ?_); cbv))
  exact hu.symm
 ·generalize D.map tU = ds at *
  obtain ⟨kd, ta, tb, m, ts, tl, td⟩ := t
  dsimp only at h2
  clear e0 e1 hv0 hv1 ht p
  (repeat ((first | with_reducible refine ln fun _ _ _ => ?_ | refine tt ?_ | refine ff ?_ | refine tt ?_ rfl | with_reducible refine wr fun _ _ => ?_ | refine rp fun _ _ _ => ?_ | with_reducible refine bq ?_ | refine cl ?_ | refine sd ?_); cbv))
  refine el ?_ (by omega) hz
  cbv
  (repeat ((first | with_reducible refine ln fun _ _ _ => ?_ | refine tt ?_ | refine ff ?_ | refine tt ?_ rfl | with_reducible refine wr fun _ _ => ?_ | refine rp fun _ _ _ => ?_ | with_reducible refine bq ?_ | refine cl ?_ | refine sd ?_); cbv))
  refine el ?_ (by omega) hy
  cbv
  (repeat ((first | with_reducible refine ln fun _ _ _ => ?_ | refine tt ?_ | refine ff ?_ | refine tt ?_ rfl | with_reducible refine wr fun _ _ => ?_ | refine rp fun _ _ _ => ?_ | with_reducible refine bq ?_ | refine cl ?_ | refine sd ?_); cbv))
  exact hu.symm⟩
end Go.Proofs.YtjkcmnedolfkjaaGreat.Rd
end
