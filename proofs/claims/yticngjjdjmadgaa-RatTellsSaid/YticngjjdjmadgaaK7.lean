/- Part 7 of the proof. -/
import Derived.Below
import Derived.Deep.Draws
import Derived.Deep.AppendLies
import Derived.Maps.AppendAt
import Derived.OwnWalk
import Derived.Laws.BytesArg
import Derived.Laws.MakeOwn
import Derived.Laws.OwnMore
import Derived.Deep.OwnRows
import Derived.Tactics
import Derived.Lib.ConvBytes
import Derived.Laws.Slices
import Derived.WalkKit
import Derived.KernelRfl
import Derived.RowKit3
import Derived.Deep.LoopGhost
import Derived.Deep.QuietTactic
import Derived.BigQuiet
import Derived.WideLaws
import Derived.Deep.DeepCutAuto
import Derived.Deep.CutBlock
import Derived.Deep.RegionHeld3
import Derived.Laws.Rows
import Derived.Lib.AppendStr
import Derived.ArgAppend
import Derived.Laws.IdiomCopy
import Derived.RowKit
import Derived.OrdersHeld
import Derived.Laws.BitsLemmas
import Derived.Test.YticngjjdjmadgaaProg
import Derived.Laws.StructEq
import Derived.Laws.Bits64b
import Derived.Laws.BitsAllLaws
import Derived.Laws.Tables
import Derived.Orders
import Derived.Laws.Cells
import Derived.Great.BuildSlice
import Derived.Laws.CopyRow
import Derived.Test.YticngjjdjmadgaaK6
set_option linter.unusedVariables false
set_option linter.unusedSimpArgs false
section
set_option linter.unusedVariables false
set_option linter.unusedSimpArgs false
namespace Go.Proofs.Yticngjjdjmadgaa.Num
open Go.RowKit Go.Proofs.YticngjjdjmadgaaW.PrintWords Go.Proofs.YticngjjdjmadgaaW.PrintMore Go.Proofs.Yticngjjdjmadgaa.PL Go.Proofs.Yticngjjdjmadgaa.PU

def Z (neg : Bool) (l : List Int) : Int := if neg = true then -(V l : Int) else (V l : Int)
def I (z : Int) : Bool × List Int := (decide (z < 0), N z.natAbs)
theorem Z_abs (neg : Bool) (l : List Int) : (Z neg l).natAbs = V l := by unfold Z; split <;> omega
theorem I_1 (z : Int) : (I z).1 = decide (z < 0) := rfl
theorem Z_I (z : Int) : Z (I z).1 (I z).2 = z := by
  unfold Z I
  simp only [V_N, decide_eq_true_eq]
  split <;> omega
theorem I_limbs (z : Int) : Limbs (I z).2 := N_limbs _
theorem V_I (z : Int) : V (I z).2 = z.natAbs := V_N _
theorem I_len (z : Int) : (I z).2.length = len z.natAbs := rfl
theorem made_eq (neg : Bool) (l : List Int) : (if neg = true then (if ((N (V l)).length : Int) > 0 then some (true, N (V l)) else some (false, N (V l))) else some (false, N (V l))) = some (I (Z neg l)) := by
  unfold I
  rw [Z_abs]
  have h0 : len (V l) = 0 ↔ V l = 0 := len_eq_zero
  cases neg with
  | false =>
    rw [if_neg (by simp)]
    have e : decide (Z false l < 0) = false := by
      unfold Z
      rw [if_neg (by simp)]
      exact decide_eq_false (by omega)
    rw [e]
  | true =>
    rw [if_pos rfl]
    by_cases h : V l = 0
    · rw [N_length, if_neg (by omega)]
      have e : decide (Z true l < 0) = false := by
        unfold Z
        rw [if_pos rfl]
        exact decide_eq_false (by omega)
      rw [e]
    · rw [N_length, if_pos (by omega)]
      have e : decide (Z true l < 0) = true := by
        unfold Z
        rw [if_pos rfl]
        exact decide_eq_true (by omega)
      rw [e]
theorem splice_all (l : List Int) : splice (List.replicate l.length (0 : Int)) 0 l = l := by
  unfold splice
  simp
theorem made_tells (neg : Bool) {l : List Int} (hl : Limbs l) (hs : l.length < 68719476736) : Ev (fun k => whole_made.f k neg l) (I (Z neg l)) := by
  have s1 := trim_tells hl (by omega)
  refine Ev.congr (f := fun k => (nat_Trim.f k l).bind fun t112 => (if neg = true then (if (t112.length : Int) > 0 then (some (true, t112)) else (some (false, t112))) else (some (false, t112)))) (fun k => ?_) (Ev.bind s1 (Ev.congr (fun _ => made_eq neg l) (Ev.now _)))
  unfold whole_made.f
  rw [if_pos (by omega), Int.toNat_natCast, if_pos (by omega), splice_all]
theorem eta2 {α β : Type} (f : Nat → Option (α × β)) {r : α × β} (h : Ev f r) : Ev (fun k => (f k).bind fun b => some (b.1, b.2)) r := Ev.bind h (Ev.now _)
theorem wtrim_tells (neg : Bool) {l : List Int} (hl : Limbs l) (hs : l.length < 68719476736) : Ev (fun k => whole_Trim.f k neg l) (I (Z neg l)) := eta2 _ (made_tells neg hl hs)
theorem wneg_tells (neg : Bool) {l : List Int} (hl : Limbs l) (hs : l.length < 68719476736) : Ev (fun k => whole_Neg.f k neg l) (I (-Z neg l)) := by
  have := eta2 _ (made_tells (!neg) hl hs)
  have e : Z (!neg) l = -Z neg l := by unfold Z; cases neg <;> simp
  rw [e] at this
  exact this
theorem wmul_tells (n1 : Bool) {l1 : List Int} (h1 : Limbs l1) (n2 : Bool) {l2 : List Int} (h2 : Limbs l2) (hs1 : l1.length < 1073741824) (hs2 : l2.length < 1073741824) : Ev (fun k => whole_Mul.f k n1 l1 n2 l2) (I (Z n1 l1 * Z n2 l2)) := by
  have hb : len (V l1 * V l2) ≤ l1.length + l2.length := len_le.2 (by rw [Nat.pow_add]; exact Nat.mul_lt_mul'' (V_lt h1) (V_lt h2))
  have s := eta2 _ (made_tells (n1 != n2) (N_limbs (V l1 * V l2)) (by rw [N_length]; omega))
  have e : Z (n1 != n2) (N (V l1 * V l2)) = Z n1 l1 * Z n2 l2 := by
    unfold Z
    rw [V_N]
    cases n1 <;> cases n2 <;> simp [Int.mul_neg, Int.neg_mul]
  rw [e] at s
  exact Ev.bind (mul_tells h1 h2 (by omega) (by omega)) s
theorem wadd_tells (n1 : Bool) {l1 : List Int} (h1 : Limbs l1) (n2 : Bool) {l2 : List Int} (h2 : Limbs l2) (hs1 : l1.length < 1073741824) (hs2 : l2.length < 1073741824) : Ev (fun k => whole_Add.f k n1 l1 n2 l2) (I (Z n1 l1 + Z n2 l2)) := by
  have b1 : len (Z n1 l1).natAbs ≤ l1.length := by rw [Z_abs]; exact len_V h1
  have b2 : len (Z n2 l2).natAbs ≤ l2.length := by rw [Z_abs]; exact len_V h2
  refine Ev.bind (wtrim_tells n1 h1 (by omega)) (Ev.bind (wtrim_tells n2 h2 (by omega)) ?_)
  generalize Z n1 l1 = x at *
  generalize Z n2 l2 = y at *
  by_cases hc : (decide (x < 0) == decide (y < 0)) = true
  · refine Ev.congr (fun k => if_pos hc) ?_
    have s := add_tells (I_limbs x) (I_limbs y) (by rw [I_len]; omega) (by rw [I_len]; omega)
    rw [V_I, V_I] at s
    have hb : len (x.natAbs + y.natAbs) ≤ l1.length + l2.length + 1 := len_le.2 (by
      have h3 := len_le.1 b1
      have h4 := len_le.1 b2
      have h5 : 4294967296 ^ l1.length ≤ 4294967296 ^ (l1.length + l2.length) := Nat.pow_le_pow_right (by omega) (by omega)
      have h6 : 4294967296 ^ l2.length ≤ 4294967296 ^ (l1.length + l2.length) := Nat.pow_le_pow_right (by omega) (by omega)
      rw [Nat.pow_succ]
      omega)
    have e : Z (I x).1 (N (x.natAbs + y.natAbs)) = x + y := by
      unfold Z
      rw [V_N, I_1]
      simp only [decide_eq_true_eq, beq_iff_eq, decide_eq_decide] at hc ⊢
      split <;> omega
    have s2 := eta2 _ (made_tells (I x).1 (N_limbs (x.natAbs + y.natAbs)) (by rw [N_length]; omega))
    rw [e] at s2
    exact Ev.bind s s2
  · refine Ev.congr (fun k => if_neg hc) ?_
    have s := sub_tells (I_limbs x) (I_limbs y) (by rw [I_len]; omega) (by rw [I_len]; omega)
    rw [V_I, V_I] at s
    simp only [beq_iff_eq, decide_eq_decide] at hc
    by_cases hlt : x.natAbs < y.natAbs
    · rw [if_pos hlt] at s
      have s' := sub_tells (I_limbs y) (I_limbs x) (by rw [I_len]; omega) (by rw [I_len]; omega)
      rw [V_I, V_I, if_neg (by omega)] at s'
      have e : Z (I y).1 (N (y.natAbs - x.natAbs)) = x + y := by
        unfold Z
        rw [V_N, I_1]
        simp only [decide_eq_true_eq]
        split <;> omega
      have hb : len (y.natAbs - x.natAbs) ≤ l2.length := Nat.le_trans (len_mono (by omega)) b2
      have s2 := eta2 _ (made_tells (I y).1 (N_limbs (y.natAbs - x.natAbs)) (by rw [N_length]; omega))
      rw [e] at s2
      exact Ev.bind s (Ev.congr (fun k => if_neg (by simp)) (Ev.bind s' s2))
    · rw [if_neg hlt] at s
      have e : Z (I x).1 (N (x.natAbs - y.natAbs)) = x + y := by
        unfold Z
        rw [V_N, I_1]
        simp only [decide_eq_true_eq]
        split <;> omega
      have hb : len (x.natAbs - y.natAbs) ≤ l1.length := Nat.le_trans (len_mono (by omega)) b1
      have s2 := eta2 _ (made_tells (I x).1 (N_limbs (x.natAbs - y.natAbs)) (by rw [N_length]; omega))
      rw [e] at s2
      exact Ev.bind s (Ev.congr (fun k => if_pos rfl) s2)
def cmpZ (a b : Int) : Int := if a < b then -1 else if b < a then 1 else 0
theorem wcmp_tells (n1 : Bool) {l1 : List Int} (h1 : Limbs l1) (n2 : Bool) {l2 : List Int} (h2 : Limbs l2) (hs1 : l1.length < 1073741824) (hs2 : l2.length < 1073741824) : Ev (fun k => whole_Cmp.f k n1 l1 n2 l2) (cmpZ (Z n1 l1) (Z n2 l2)) := by
  have b1 : len (Z n1 l1).natAbs ≤ l1.length := by rw [Z_abs]; exact len_V h1
  have b2 : len (Z n2 l2).natAbs ≤ l2.length := by rw [Z_abs]; exact len_V h2
  refine Ev.bind (wtrim_tells n1 h1 (by omega)) (Ev.bind (wtrim_tells n2 h2 (by omega)) ?_)
  generalize Z n1 l1 = x at *
  generalize Z n2 l2 = y at *
  have s := cmp_tells (I_limbs x) (I_limbs y) (by rw [I_len]; omega) (by rw [I_len]; omega)
  have s' := cmp_tells (I_limbs y) (I_limbs x) (by rw [I_len]; omega) (by rw [I_len]; omega)
  rw [V_I, V_I] at s s'
  by_cases hx : x < 0 <;> by_cases hy : y < 0
  · have e : cmpN y.natAbs x.natAbs = cmpZ x y := by
      unfold cmpN cmpZ
      split <;> split <;> omega
    rw [e] at s'
    have ex : (I x).1 = true := decide_eq_true hx
    have ey : (I y).1 = true := decide_eq_true hy
    refine Ev.congr (fun k => by rw [if_pos ex, ey, ex]) ?_
    refine Ev.step (f := fun k => whole_Cmp.j1 k false true (I x).2 true (I y).2) (fun k => by simp [whole_Cmp.j0]) ?_
    exact Ev.step (f := fun k => (nat_Cmp.f k (I y).2 (I x).2).bind fun t => some t) (fun k => by simp [whole_Cmp.j1]) (Ev.bind s' (Ev.now _))
  · have e : cmpZ x y = -1 := by unfold cmpZ; rw [if_pos (by omega)]
    rw [e]
    have ex : (I x).1 = true := decide_eq_true hx
    have ey : (I y).1 = false := decide_eq_false hy
    refine Ev.congr (fun k => by rw [if_pos ex, ey, ex]) ?_
    exact Ev.step (f := fun _ => some (-1)) (fun k => by simp [whole_Cmp.j0]) (Ev.now _)
  · have e : cmpZ x y = 1 := by unfold cmpZ; rw [if_neg (by omega), if_pos (by omega)]
    rw [e]
    have ex : (I x).1 = false := decide_eq_false hx
    have ey : (I y).1 = true := decide_eq_true hy
    refine Ev.congr (fun k => by rw [if_neg (by rw [ex]; simp), ey, ex]) ?_
    refine Ev.step (f := fun k => whole_Cmp.j1 k true false (I x).2 true (I y).2) (fun k => by simp [whole_Cmp.j0]) ?_
    exact Ev.step (f := fun _ => some 1) (fun k => by simp [whole_Cmp.j1]) (Ev.now _)
  · have e : cmpN x.natAbs y.natAbs = cmpZ x y := by
      unfold cmpN cmpZ
      split <;> split <;> omega
    rw [e] at s
    have ex : (I x).1 = false := decide_eq_false hx
    have ey : (I y).1 = false := decide_eq_false hy
    refine Ev.congr (fun k => by rw [if_neg (by rw [ex]; simp), ey, ex]) ?_
    refine Ev.step (f := fun k => whole_Cmp.j1 k false false (I x).2 false (I y).2) (fun k => by simp [whole_Cmp.j0]) ?_
    exact Ev.step (f := fun k => (nat_Cmp.f k (I x).2 (I y).2).bind fun t => some t) (fun k => by simp [whole_Cmp.j1]) (Ev.bind s (Ev.now _))
end Go.Proofs.Yticngjjdjmadgaa.Num
end
section
set_option linter.unusedVariables false
set_option linter.unusedSimpArgs false
namespace Go.Proofs.Yticngjjdjmadgaa.Num
open Go.RowKit Go.Proofs.YticngjjdjmadgaaW.PrintWords Go.Proofs.YticngjjdjmadgaaW.PrintMore Go.Proofs.Yticngjjdjmadgaa.PL Go.Proofs.Yticngjjdjmadgaa.PU

abbrev R3 : Type := Bool × List Int × List Int
abbrev R4 : Type := Bool × List Int × List Int × Int
def ratOf (q : Rat) : R3 := (decide (q.num < 0), N q.num.natAbs, N q.den)
def fits (q : Rat) : Bool := decide (len q.num.natAbs ≤ 64) && decide (len q.den ≤ 64)
def bad (e : Int) : R4 := (false, [], [], e)
def lim (q : Rat) : R4 := if fits q = true then ((ratOf q).1, (ratOf q).2.1, (ratOf q).2.2, 0) else bad 2
def qOf (a : R3) : Rat := mkRat (Z a.1 a.2.1) (V a.2.2)
def goodB (a : R3) : Bool := decide (N (V a.2.1) = a.2.1) && decide (N (V a.2.2) = a.2.2) && decide (a.2.2.length ≠ 0) && decide (a.2.2.length ≤ 64) && decide (a.2.1.length ≤ 64) && !(a.1 && decide (a.2.1.length = 0)) && decide (Nat.gcd (V a.2.1) (V a.2.2) = 1)
theorem mk_parts (z : Int) (b : Nat) (hb : b ≠ 0) : (mkRat z b).num.natAbs = z.natAbs / Nat.gcd z.natAbs b ∧ (mkRat z b).den = b / Nat.gcd z.natAbs b ∧ decide ((mkRat z b).num < 0) = decide (z < 0) := by
  rw [Rat.num_mkRat, Rat.den_mkRat, if_neg hb, if_neg hb, Nat.gcd_comm b]
  have hg : 0 < Nat.gcd z.natAbs b := Nat.gcd_pos_of_pos_right _ (by omega)
  have hd : ((Nat.gcd z.natAbs b : Nat) : Int) ∣ z := Int.ofNat_dvd_left.2 (Nat.gcd_dvd_left _ _)
  generalize Nat.gcd z.natAbs b = g at *
  obtain ⟨c, hc⟩ := hd
  refine ⟨?_, rfl, ?_⟩
  · rw [hc, Int.mul_ediv_cancel_left _ (by omega), Int.natAbs_mul, Int.natAbs_natCast, Nat.mul_div_cancel_left _ hg]
  · rw [hc, Int.mul_ediv_cancel_left _ (by omega), decide_eq_decide]
    constructor
    · intro h
      exact Int.mul_neg_of_pos_of_neg (by omega) h
    · intro h
      by_cases h2 : c < 0
      · exact h2
      · have := Int.mul_nonneg (show 0 ≤ (g : Int) from by omega) (show 0 ≤ c from by omega)
        omega
theorem ratof_tells (neg : Bool) {l b : List Int} (hl : Limbs l) (hb : Limbs b) (hsl : l.length < 134217728) (hsb : b.length < 134217728) :
    Ev (fun k => rat_Of.f k neg l b) (if V b = 0 then bad 3 else lim (mkRat (Z neg l) (V b))) := by
  have bl : len (Z neg l).natAbs ≤ l.length := by rw [Z_abs]; exact len_V hl
  have bb := len_V hb
  refine Ev.bind (wtrim_tells neg hl (by omega)) (Ev.bind (trim_tells hb (by omega)) ?_)
  generalize Z neg l = z at *
  generalize V b = B at *
  by_cases hz : B = 0
  · subst hz
    rw [if_pos rfl]
    exact Ev.congr (fun k => by rw [N_zero, if_pos (by rfl)]; rfl) (Ev.now _)
  · rw [if_neg hz]
    have hlz : len B ≠ 0 := fun h => hz (len_eq_zero.1 h)
    refine Ev.congr (fun k => by rw [N_length, if_neg (by omega)]) ?_
    have s1 := gcd_tells (I_limbs z) (N_limbs B) (by rw [I_len]; omega) (by rw [N_length]; omega)
    rw [V_I, V_N] at s1
    obtain ⟨p1, p2, p3⟩ := mk_parts z B hz
    have hg : 0 < Nat.gcd z.natAbs B := Nat.gcd_pos_of_pos_right _ (by omega)
    have hgb : len (Nat.gcd z.natAbs B) ≤ len B := len_mono (Nat.gcd_le_right _ (by omega))
    have s2 := rem_tells (I_limbs z) (N_limbs (Nat.gcd z.natAbs B)) (by rw [I_len]; omega) (by rw [N_length]; omega)
    rw [V_I, V_N, if_neg (by omega), ← p1] at s2
    have s3 := rem_tells (N_limbs B) (N_limbs (Nat.gcd z.natAbs B)) (by rw [N_length]; omega) (by rw [N_length]; omega)
    rw [V_N, V_N, if_neg (by omega), ← p2] at s3
    refine Ev.bind s1 (Ev.bind s2 (Ev.bind s3 ?_))
    unfold lim fits ratOf bad
    rw [p3]
    generalize (mkRat z B).num.natAbs = x at *
    generalize (mkRat z B).den = y at *
    by_cases h1 : len x ≤ 64
    · refine Ev.congr (fun k => by rw [N_length, if_neg (by omega)]) ?_
      by_cases h2 : len y ≤ 64
      · refine Ev.congr (fun k => by rw [N_length, if_neg (by omega)]) ?_
        rw [if_pos (by simp [h1, h2])]
        exact Ev.now _
      · refine Ev.congr (fun k => by rw [N_length, if_pos (by omega)]) ?_
        rw [if_neg (by simp [h2])]
        exact Ev.now _
    · refine Ev.congr (fun k => by rw [N_length, if_pos (by omega)]) ?_
      rw [if_neg (by simp [h1])]
      exact Ev.now _
theorem rgood_j (l b : List Int) (hl : Limbs l) (hb : Limbs b) (hsl : l.length ≤ 64) (hsb : b.length ≤ 64) : Ev (fun k => rat_Good.j0 k l b false) (decide (Nat.gcd (V l) (V b) = 1)) := by
  have s1 := gcd_tells hl hb (by omega) (by omega)
  have s2 := nat_of_tells (v := 1) (by omega) (by omega)
  have hgl : len (Nat.gcd (V l) (V b)) ≤ 64 := by
    by_cases h : V b = 0
    · rw [h, Nat.gcd_zero_right]; exact Nat.le_trans (len_V hl) hsl
    · exact Nat.le_trans (len_mono (Nat.gcd_le_right _ (by omega))) (Nat.le_trans (len_V hb) hsb)
  have h1 : len 1 ≤ 1 := len_le.2 (by omega)
  have s3 := cmp_tells (N_limbs (Nat.gcd (V l) (V b))) (N_limbs 1) (by rw [N_length]; omega) (by rw [N_length]; omega)
  rw [V_N, V_N] at s3
  have e : decide (Nat.gcd (V l) (V b) = 1) = (cmpN (Nat.gcd (V l) (V b)) 1 == 0) := by
    unfold cmpN
    by_cases h : Nat.gcd (V l) (V b) = 1
    · rw [decide_eq_true h, h]; rfl
    · rw [decide_eq_false h]
      split
      · rfl
      · split
        · rfl
        · omega
  rw [e]
  refine Ev.step (f := fun k => (quo_Gcd.f k l b).bind fun t315 => ((nat_Of.f k 1).bind fun t318 => ((nat_Cmp.f k t315 t318).bind fun t321 => (some (t321 == 0))))) (fun k => by simp [rat_Good.j0]) ?_
  exact Ev.bind s1 (Ev.bind s2 (Ev.bind s3 (Ev.now _)))
theorem rgood_no (l b : List Int) : Ev (fun k => rat_Good.j0 k l b true) false :=
  Ev.step (f := fun _ => some false) (fun k => by simp [rat_Good.j0]) (Ev.now _)
theorem rgood_tells (neg : Bool) {l b : List Int} (hl : Limbs l) (hb : Limbs b) (hsl : l.length < 9223372036854775808) (hsb : b.length < 9223372036854775808) : Ev (fun k => rat_Good.f k neg l b) (goodB (neg, l, b)) := by
  unfold goodB
  dsimp only
  refine Ev.congr (f := fun k => if decide (N (V l) = l) = true then (if decide (N (V b) = b) = true then (if (b.length : Int) = 0 then (rat_Good.j0 k l b true) else (if (b.length : Int) > 64 then (rat_Good.j0 k l b true) else (if (l.length : Int) > 64 then (rat_Good.j0 k l b true) else (if neg = true then (if (l.length : Int) = 0 then (rat_Good.j0 k l b true) else (rat_Good.j0 k l b false)) else (rat_Good.j0 k l b false))))) else (rat_Good.j0 k l b true)) else (rat_Good.j0 k l b true)) (fun k => by
    unfold rat_Good.f
    rw [trimmed_tells hl hsl, trimmed_tells hb hsb]
    rfl) ?_
  by_cases h1 : N (V l) = l
  · refine Ev.congr (fun k => if_pos (decide_eq_true h1)) ?_
    by_cases h2 : N (V b) = b
    · refine Ev.congr (fun k => if_pos (decide_eq_true h2)) ?_
      by_cases h3 : b.length = 0
      · exact Ev.congr (fun k => if_pos (by omega)) (by simpa [h3] using rgood_no l b)
      · refine Ev.congr (fun k => if_neg (by omega)) ?_
        by_cases h4 : b.length ≤ 64
        · refine Ev.congr (fun k => if_neg (by omega)) ?_
          by_cases h5 : l.length ≤ 64
          · refine Ev.congr (fun k => if_neg (by omega)) ?_
            have s := rgood_j l b hl hb h5 h4
            cases neg with
            | false =>
              refine Ev.congr (fun k => if_neg (by simp)) ?_
              rw [decide_eq_true h1, decide_eq_true h2, decide_eq_true h3, decide_eq_true h4, decide_eq_true h5]
              exact s
            | true =>
              refine Ev.congr (fun k => if_pos rfl) ?_
              by_cases h6 : l.length = 0
              · refine Ev.congr (fun k => if_pos (by omega)) ?_
                rw [decide_eq_true h6]
                simpa using rgood_no l b
              · refine Ev.congr (fun k => if_neg (by omega)) ?_
                rw [decide_eq_true h1, decide_eq_true h2, decide_eq_true h3, decide_eq_true h4, decide_eq_true h5, decide_eq_false h6]
                exact s
          · refine Ev.congr (fun k => if_pos (by omega)) ?_
            rw [decide_eq_false h5]
            simpa using rgood_no l b
        · refine Ev.congr (fun k => if_pos (by omega)) ?_
          rw [decide_eq_false h4]
          simpa using rgood_no l b
    · refine Ev.congr (fun k => if_neg (by simpa using h2)) ?_
      rw [decide_eq_false h2]
      simpa using rgood_no l b
  · refine Ev.congr (fun k => if_neg (by simpa using h1)) ?_
    rw [decide_eq_false h1]
    simpa using rgood_no l b
theorem good_iff {a : R3} : goodB a = true ↔ ∃ q : Rat, fits q = true ∧ a = ratOf q := by
  obtain ⟨neg, l, b⟩ := a
  unfold goodB
  simp only [Bool.and_eq_true, decide_eq_true_eq, Bool.not_eq_true', Bool.and_eq_false_iff, decide_eq_false_iff_not]
  constructor
  · rintro ⟨⟨⟨⟨⟨⟨h1, h2⟩, h3⟩, h4⟩, h5⟩, h6⟩, h7⟩
    have hB : V b ≠ 0 := fun h => by
      rw [h, N_zero] at h2
      exact h3 (by rw [← h2]; rfl)
    obtain ⟨p1, p2, p3⟩ := mk_parts (Z neg l) (V b) hB
    rw [Z_abs, h7, Nat.div_one] at p1 p2
    have hlen1 : len (V l) = l.length := by rw [← N_length, h1]
    have hlen2 : len (V b) = b.length := by rw [← N_length, h2]
    refine ⟨mkRat (Z neg l) (V b), ?_, ?_⟩
    · unfold fits
      rw [p1, p2, hlen1, hlen2, decide_eq_true h5, decide_eq_true h4]
      rfl
    · unfold ratOf
      rw [p1, p2, p3, h1, h2]
      have : neg = decide (Z neg l < 0) := by
        have h0 : len (V l) = 0 ↔ V l = 0 := len_eq_zero
        unfold Z
        cases neg with
        | false => rw [if_neg (by simp)]; exact (decide_eq_false (by omega)).symm
        | true =>
          rw [if_pos rfl]
          refine (decide_eq_true ?_).symm
          rcases h6 with h6 | h6
          · cases h6
          · omega
      rw [← this]
  · rintro ⟨q, hf, he⟩
    unfold ratOf at he
    injection he with e1 e2
    injection e2 with e2 e3
    subst e1 e2 e3
    unfold fits at hf
    simp only [Bool.and_eq_true, decide_eq_true_eq] at hf
    rw [V_N, V_N, N_length, N_length]
    have hd := q.den_nz
    refine ⟨⟨⟨⟨⟨⟨rfl, rfl⟩, fun h => hd (len_eq_zero.1 h)⟩, hf.2⟩, hf.1⟩, ?_⟩, q.reduced⟩
    by_cases h : q.num < 0
    · right
      intro h2
      have := len_eq_zero.1 h2
      omega
    · left
      exact decide_eq_false h
theorem Z_ratOf (q : Rat) : Z (ratOf q).1 (ratOf q).2.1 = q.num := Z_I q.num
theorem V_ratOf (q : Rat) : V (ratOf q).2.2 = q.den := V_N _
theorem qOf_ratOf (q : Rat) : qOf (ratOf q) = q := by
  unfold qOf
  rw [Z_ratOf, V_ratOf, Rat.mkRat_self]
end Go.Proofs.Yticngjjdjmadgaa.Num
end
section
set_option linter.unusedVariables false
set_option linter.unusedSimpArgs false
namespace Go.Proofs.Yticngjjdjmadgaa.Num
open Go.RowKit Go.Proofs.YticngjjdjmadgaaW.PrintWords Go.Proofs.YticngjjdjmadgaaW.PrintMore Go.Proofs.Yticngjjdjmadgaa.PL Go.Proofs.Yticngjjdjmadgaa.PU

structure LR (a : R3) : Prop where
  t : Limbs a.2.1
  b : Limbs a.2.2
  lt : a.2.1.length < 67108864
  lb : a.2.2.length < 67108864
theorem fits_len {q : Rat} (h : fits q = true) : len q.num.natAbs ≤ 64 ∧ len q.den ≤ 64 := by
  unfold fits at h
  simpa using h
theorem LR_ratOf {q : Rat} (h : fits q = true) : LR (ratOf q) := by
  obtain ⟨h1, h2⟩ := fits_len h
  exact ⟨N_limbs _, N_limbs _, by show len q.num.natAbs < _; omega, by show len q.den < _; omega⟩
theorem good_ratOf {q : Rat} (h : fits q = true) : goodB (ratOf q) = true := good_iff.2 ⟨q, h, rfl⟩
def addS (a b : R3) : R4 := if (goodB a && goodB b) = true then lim (qOf a + qOf b) else bad 1
def mulS (a b : R3) : R4 := if (goodB a && goodB b) = true then lim (qOf a * qOf b) else bad 1
def divS (a b : R3) : R4 := if (goodB a && goodB b) = true then (if qOf b = 0 then bad 3 else lim (qOf a / qOf b)) else bad 1
def subS (a b : R3) : R4 := if (goodB a && goodB b) = true then lim (qOf a - qOf b) else bad 1
def none3 : R3 := (false, [], [])
def negS (a : R3) : R3 := if goodB a = true then ratOf (-qOf a) else none3
def cmpQ (p q : Rat) : Int := if p < q then -1 else if q < p then 1 else 0
def cmpS (a b : R3) : Int := if (goodB a && goodB b) = true then cmpQ (qOf a) (qOf b) else 0
def signS (a : R3) : Int := if goodB a = true then cmpQ (qOf a) 0 else 0
def sameS (a b : R3) : Bool := goodB a && (goodB b && decide (a = b))
theorem eta4 {f : Nat → Option R4} {r : R4} (h : Ev f r) : Ev (fun k => (f k).bind fun b => some (b.1, b.2.1, b.2.2.1, b.2.2.2)) r := Ev.bind h (Ev.now _)
theorem goods {α : Type} (f : Bool → Nat → Option α) (g1 g2 : Nat → Option Bool) {b1 b2 : Bool} {r : α} (h1 : Ev g1 b1) (h2 : Ev g2 b2) (hj : ∀ x, (x = true → f x 0 = f x 0) → True)
    (hno : Ev (f true) r ∨ (b1 = true ∧ b2 = true)) (hyes : b1 = true → b2 = true → Ev (f false) r) :
    Ev (fun k => (g1 k).bind fun t => (if t = true then ((g2 k).bind fun u => f (!u) k) else f true k)) r := by
  refine Ev.bind h1 ?_
  cases b1 with
  | false =>
    refine Ev.congr (fun k => if_neg (by simp)) ?_
    rcases hno with hno | ⟨h, _⟩
    · exact hno
    · cases h
  | true =>
    refine Ev.congr (fun k => if_pos rfl) (Ev.bind h2 ?_)
    cases b2 with
    | false =>
      rcases hno with hno | ⟨_, h⟩
      · exact hno
      · cases h
    | true => exact hyes rfl rfl
theorem cross_tells {p q : Rat} (hp : fits p = true) (hq : fits q = true) : Ev (fun k => rat_cross.f k (ratOf p).1 (ratOf p).2.1 (ratOf p).2.2 (ratOf q).1 (ratOf q).2.1 (ratOf q).2.2) (I (p.num * q.den)) := by
  obtain ⟨h1, h2⟩ := fits_len hp
  obtain ⟨h3, h4⟩ := fits_len hq
  have s := wmul_tells (ratOf p).1 (l1 := (ratOf p).2.1) (N_limbs _) false (l2 := (ratOf q).2.2) (N_limbs _) (by show len p.num.natAbs < _; omega) (by show len q.den < _; omega)
  have e : Z false (ratOf q).2.2 = (q.den : Int) := by
    unfold Z
    rw [if_neg (by simp)]
    show (((V (N q.den) : Nat)) : Int) = _
    rw [V_N]
  rw [Z_ratOf, e] at s
  exact eta2 _ s
theorem len_mul (a b : Nat) : len (a * b) ≤ len a + len b := len_le.2 (by rw [Nat.pow_add]; exact Nat.mul_lt_mul'' (lt_len a) (lt_len b))
theorem len_mulZ (a b : Int) : len (a * b).natAbs ≤ len a.natAbs + len b.natAbs := by rw [Int.natAbs_mul]; exact len_mul _ _
theorem len_add (a b : Nat) : len (a + b) ≤ len a + len b + 1 := len_le.2 (by
  have h3 := lt_len a
  have h4 := lt_len b
  have h5 : 4294967296 ^ len a ≤ 4294967296 ^ (len a + len b) := Nat.pow_le_pow_right (by omega) (by omega)
  have h6 : 4294967296 ^ len b ≤ 4294967296 ^ (len a + len b) := Nat.pow_le_pow_right (by omega) (by omega)
  rw [Nat.pow_succ]
  omega)
theorem len_addZ (a b : Int) : len (a + b).natAbs ≤ len a.natAbs + len b.natAbs + 1 := Nat.le_trans (len_mono (Int.natAbs_add_le a b)) (len_add _ _)
theorem radd_tells {a b : R3} (ha : LR a) (hb : LR b) : Ev (fun k => rat_Add.f k a.1 a.2.1 a.2.2 b.1 b.2.1 b.2.2) (addS a b) := by
  have g1 := rgood_tells a.1 ha.t ha.b (by have := ha.lt; omega) (by have := ha.lb; omega)
  have g2 := rgood_tells b.1 hb.t hb.b (by have := hb.lt; omega) (by have := hb.lb; omega)
  refine goods (fun x k => rat_Add.j0 k x a.1 a.2.1 a.2.2 b.1 b.2.1 b.2.2) _ _ g1 g2 (fun _ _ => trivial) ?_ ?_
  · by_cases h : (goodB a && goodB b) = true
    · right; simpa using h
    · left
      unfold addS
      rw [if_neg h]
      exact Ev.step (f := fun _ => some (bad 1)) (fun k => by simp [rat_Add.j0, bad]) (Ev.now _)
  · intro x1 x2
    have h1 : goodB a = true := x1
    have h2 : goodB b = true := x2
    unfold addS
    rw [h1, h2, Bool.and_true, if_pos rfl]
    obtain ⟨p, hp, rfl⟩ := good_iff.1 h1
    obtain ⟨q, hq, rfl⟩ := good_iff.1 h2
    rw [qOf_ratOf, qOf_ratOf]
    obtain ⟨f1, f2⟩ := fits_len hp
    obtain ⟨f3, f4⟩ := fits_len hq
    have c1 := len_mulZ p.num q.den
    have c2 := len_mulZ q.num p.den
    have c3 := len_mul p.den q.den
    rw [Int.natAbs_natCast] at c1 c2
    have s3 := wadd_tells (I (p.num * q.den)).1 (I_limbs (p.num * q.den)) (I (q.num * p.den)).1 (I_limbs (q.num * p.den)) (by rw [I_len]; omega) (by rw [I_len]; omega)
    rw [Z_I, Z_I] at s3
    have s4 := mul_tells (a := (ratOf p).2.2) (b := (ratOf q).2.2) (N_limbs _) (N_limbs _) (by show len p.den < _; omega) (by show len q.den < _; omega)
    rw [V_ratOf, V_ratOf] at s4
    have c4 := len_addZ (p.num * q.den) (q.num * p.den)
    have s5 := ratof_tells (I (p.num * q.den + q.num * p.den)).1 (I_limbs (p.num * q.den + q.num * p.den)) (N_limbs (p.den * q.den)) (by rw [I_len]; omega) (by rw [N_length]; omega)
    rw [Z_I, V_N, if_neg (Nat.mul_ne_zero p.den_nz q.den_nz), ← Rat.add_def'] at s5
    refine Ev.step (f := fun k => ((rat_cross.f k (ratOf p).1 (ratOf p).2.1 (ratOf p).2.2 (ratOf q).1 (ratOf q).2.1 (ratOf q).2.2).bind fun bt392 => ((rat_cross.f k (ratOf q).1 (ratOf q).2.1 (ratOf q).2.2 (ratOf p).1 (ratOf p).2.1 (ratOf p).2.2).bind fun bt396 => ((whole_Add.f k bt392.1 bt392.2 bt396.1 bt396.2).bind fun bt400 => ((mul_Of.f k (ratOf p).2.2 (ratOf q).2.2).bind fun t404 => ((rat_Of.f k bt400.1 bt400.2 t404).bind fun bt407 => (some (bt407.1, bt407.2.1, bt407.2.2.1, bt407.2.2.2)))))))) (fun k => by simp only [rat_Add.j0]; rw [if_neg (by simp)]) ?_
    exact Ev.bind (cross_tells hp hq) (Ev.bind (cross_tells hq hp) (Ev.bind s3 (Ev.bind s4 (eta4 s5))))
theorem rmul_tells {a b : R3} (ha : LR a) (hb : LR b) : Ev (fun k => rat_Mul.f k a.1 a.2.1 a.2.2 b.1 b.2.1 b.2.2) (mulS a b) := by
  have g1 := rgood_tells a.1 ha.t ha.b (by have := ha.lt; omega) (by have := ha.lb; omega)
  have g2 := rgood_tells b.1 hb.t hb.b (by have := hb.lt; omega) (by have := hb.lb; omega)
  refine goods (fun x k => rat_Mul.j0 k x a.1 a.2.1 a.2.2 b.1 b.2.1 b.2.2) _ _ g1 g2 (fun _ _ => trivial) ?_ ?_
  · by_cases h : (goodB a && goodB b) = true
    · right; simpa using h
    · left
      unfold mulS
      rw [if_neg h]
      exact Ev.step (f := fun _ => some (bad 1)) (fun k => by simp [rat_Mul.j0, bad]) (Ev.now _)
  · intro x1 x2
    have h1 : goodB a = true := x1
    have h2 : goodB b = true := x2
    unfold mulS
    rw [h1, h2, Bool.and_true, if_pos rfl]
    obtain ⟨p, hp, rfl⟩ := good_iff.1 h1
    obtain ⟨q, hq, rfl⟩ := good_iff.1 h2
    rw [qOf_ratOf, qOf_ratOf]
    obtain ⟨f1, f2⟩ := fits_len hp
    obtain ⟨f3, f4⟩ := fits_len hq
    have c1 := len_mulZ p.num q.num
    have c3 := len_mul p.den q.den
    have s3 := wmul_tells (ratOf p).1 (l1 := (ratOf p).2.1) (N_limbs _) (ratOf q).1 (l2 := (ratOf q).2.1) (N_limbs _) (by show len p.num.natAbs < _; omega) (by show len q.num.natAbs < _; omega)
    rw [Z_ratOf, Z_ratOf] at s3
    have s4 := mul_tells (a := (ratOf p).2.2) (b := (ratOf q).2.2) (N_limbs _) (N_limbs _) (by show len p.den < _; omega) (by show len q.den < _; omega)
    rw [V_ratOf, V_ratOf] at s4
    have s5 := ratof_tells (I (p.num * q.num)).1 (I_limbs (p.num * q.num)) (N_limbs (p.den * q.den)) (by rw [I_len]; omega) (by rw [N_length]; omega)
    rw [Z_I, V_N, if_neg (Nat.mul_ne_zero p.den_nz q.den_nz), ← Rat.mul_def'] at s5
    refine Ev.step (f := fun k => ((whole_Mul.f k (ratOf p).1 (ratOf p).2.1 (ratOf q).1 (ratOf q).2.1).bind fun bt455 => ((mul_Of.f k (ratOf p).2.2 (ratOf q).2.2).bind fun t459 => ((rat_Of.f k bt455.1 bt455.2 t459).bind fun bt462 => (some (bt462.1, bt462.2.1, bt462.2.2.1, bt462.2.2.2)))))) (fun k => by simp only [rat_Mul.j0]; rw [if_neg (by simp)]) ?_
    exact Ev.bind s3 (Ev.bind s4 (eta4 s5))
theorem inv_mk (q : Rat) (h : q.num ≠ 0) : q⁻¹ = mkRat (if q.num < 0 then -(q.den : Int) else (q.den : Int)) q.num.natAbs := by
  rw [Rat.inv_def]
  generalize q.num = z at *
  cases z with
  | ofNat n => rw [if_neg (by simp)]; rfl
  | negSucc n =>
    rw [if_pos (Int.negSucc_lt_zero n)]
    show Rat.normalize (-(q.den : Int)) (n + 1) (Nat.succ_ne_zero n) = _
    rw [Rat.normalize_eq_mkRat]
    rfl
theorem div_mk (p q : Rat) (h : q.num ≠ 0) : mkRat (if q.num < 0 then -(p.num * q.den) else p.num * q.den) (p.den * q.num.natAbs) = p / q := by
  rw [Rat.div_def, inv_mk q h]
  conv => rhs; rw [← Rat.mkRat_self p, Rat.mkRat_mul_mkRat]
  split
  · rw [Int.mul_neg]
  · rfl
theorem rdiv_tells {a b : R3} (ha : LR a) (hb : LR b) : Ev (fun k => rat_Div.f k a.1 a.2.1 a.2.2 b.1 b.2.1 b.2.2) (divS a b) := by
  have g1 := rgood_tells a.1 ha.t ha.b (by have := ha.lt; omega) (by have := ha.lb; omega)
  have g2 := rgood_tells b.1 hb.t hb.b (by have := hb.lt; omega) (by have := hb.lb; omega)
  refine goods (fun x k => rat_Div.j0 k x a.1 a.2.1 a.2.2 b.1 b.2.1 b.2.2) _ _ g1 g2 (fun _ _ => trivial) ?_ ?_
  · by_cases h : (goodB a && goodB b) = true
    · right; simpa using h
    · left
      unfold divS
      rw [if_neg h]
      exact Ev.step (f := fun _ => some (bad 1)) (fun k => by simp [rat_Div.j0, bad]) (Ev.now _)
  · intro x1 x2
    have h1 : goodB a = true := x1
    have h2 : goodB b = true := x2
    unfold divS
    rw [h1, h2, Bool.and_true, if_pos rfl]
    obtain ⟨p, hp, rfl⟩ := good_iff.1 h1
    obtain ⟨q, hq, rfl⟩ := good_iff.1 h2
    rw [qOf_ratOf, qOf_ratOf]
    obtain ⟨f1, f2⟩ := fits_len hp
    obtain ⟨f3, f4⟩ := fits_len hq
    have c1 := len_mulZ p.num q.den
    rw [Int.natAbs_natCast] at c1
    have c3 := len_mul p.den q.num.natAbs
    have s4 := mul_tells (a := (ratOf p).2.2) (b := (ratOf q).2.1) (N_limbs _) (N_limbs _) (by show len p.den < _; omega) (by show len q.num.natAbs < _; omega)
    rw [V_ratOf, show V (ratOf q).2.1 = q.num.natAbs from V_N _] at s4
    have s5 := ratof_tells (!((I (p.num * q.den)).1 == (ratOf q).1)) (I_limbs (p.num * q.den)) (N_limbs (p.den * q.num.natAbs)) (by rw [I_len]; omega) (by rw [N_length]; omega)
    have e : Z (!((I (p.num * q.den)).1 == (ratOf q).1)) (I (p.num * q.den)).2 = if q.num < 0 then -(p.num * q.den) else p.num * q.den := by
      generalize p.num * q.den = z
      unfold Z
      rw [V_I, I_1, show (ratOf q).1 = decide (q.num < 0) from rfl]
      by_cases z1 : z < 0 <;> by_cases z2 : q.num < 0 <;> simp [z1, z2] <;> omega
    rw [e, V_N] at s5
    have e2 : (if p.den * q.num.natAbs = 0 then bad 3 else lim (mkRat (if q.num < 0 then -(p.num * q.den) else p.num * q.den) (p.den * q.num.natAbs))) = if q = 0 then bad 3 else lim (p / q) := by
      by_cases hz : q.num = 0
      · have : q = 0 := Rat.num_eq_zero.1 hz
        rw [if_pos (by rw [hz]; simp), if_pos this]
      · rw [if_neg (Nat.mul_ne_zero p.den_nz (by omega)), if_neg (show ¬ q = 0 from fun h => hz (by rw [h]; rfl)), div_mk p q hz]
    rw [e2] at s5
    refine Ev.step (f := fun k => ((rat_cross.f k (ratOf p).1 (ratOf p).2.1 (ratOf p).2.2 (ratOf q).1 (ratOf q).2.1 (ratOf q).2.2).bind fun bt475 => ((mul_Of.f k (ratOf p).2.2 (ratOf q).2.1).bind fun t480 => ((rat_Of.f k (!(bt475.1 == (ratOf q).1)) bt475.2 t480).bind fun bt483 => (some (bt483.1, bt483.2.1, bt483.2.2.1, bt483.2.2.2)))))) (fun k => by simp only [rat_Div.j0]; rw [if_neg (by simp)]; rfl) ?_
    exact Ev.bind (cross_tells hp hq) (Ev.bind s4 (eta4 s5))
theorem rneg_tells {a : R3} (ha : LR a) : Ev (fun k => rat_Neg.f k a.1 a.2.1 a.2.2) (negS a) := by
  have g1 := rgood_tells a.1 ha.t ha.b (by have := ha.lt; omega) (by have := ha.lb; omega)
  refine Ev.bind g1 ?_
  unfold negS none3
  show Ev _ (if goodB a = true then _ else _)
  by_cases h : goodB a = true
  · rw [if_pos h]
    refine Ev.congr (fun k => if_pos h) ?_
    obtain ⟨p, hp, rfl⟩ := good_iff.1 h
    obtain ⟨f1, f2⟩ := fits_len hp
    rw [qOf_ratOf]
    have s := wneg_tells (ratOf p).1 (l := (ratOf p).2.1) (N_limbs _) (by show len p.num.natAbs < _; omega)
    rw [Z_ratOf] at s
    have hl : (ratOf p).2.2.length ≤ 64 := f2
    refine Ev.congr (f := fun k => (whole_Neg.f k (ratOf p).1 (ratOf p).2.1).bind fun bt428 => (some (bt428.1, bt428.2, (ratOf p).2.2))) (fun k => ?_) (Ev.bind s (Ev.congr (fun k => ?_) (Ev.now _)))
    · rw [if_pos (by omega), Int.toNat_natCast, if_pos (by omega), splice_all]
    · unfold I ratOf
      rw [Rat.neg_num, Rat.neg_den]
  · rw [if_neg h]
    exact Ev.congr (fun k => if_neg h) (Ev.now _)
theorem fits_neg (q : Rat) : fits (-q) = fits q := by unfold fits; rw [Rat.neg_num, Rat.neg_den, Int.natAbs_neg]
theorem good_none : goodB none3 = false := by unfold goodB none3; simp
theorem LR_neg {a : R3} : LR (negS a) := by
  unfold negS
  by_cases h : goodB a = true
  · rw [if_pos h]
    obtain ⟨p, hp, rfl⟩ := good_iff.1 h
    rw [qOf_ratOf]
    exact LR_ratOf (by rw [fits_neg]; exact hp)
  · rw [if_neg h]
    exact ⟨Limbs.nil, Limbs.nil, by show 0 < _; omega, by show 0 < _; omega⟩
theorem sub_eq (a b : R3) : addS a (negS b) = subS a b := by
  unfold addS subS negS
  by_cases h : goodB b = true
  · rw [if_pos h]
    obtain ⟨p, hp, rfl⟩ := good_iff.1 h
    rw [qOf_ratOf, qOf_ratOf, good_ratOf (by rw [fits_neg]; exact hp), h, Rat.sub_eq_add_neg]
  · rw [if_neg h, good_none, Bool.and_false, if_neg (by simp), if_neg (by simp [h])]
theorem rsub_tells {a b : R3} (ha : LR a) (hb : LR b) : Ev (fun k => rat_Sub.f k a.1 a.2.1 a.2.2 b.1 b.2.1 b.2.2) (subS a b) := by
  have s := radd_tells ha (LR_neg (a := b))
  rw [sub_eq] at s
  exact Ev.bind (rneg_tells hb) (eta4 s)
theorem cmpZ_cmpQ (p q : Rat) : cmpZ (p.num * q.den) (q.num * p.den) = cmpQ p q := by
  unfold cmpZ cmpQ
  simp only [Rat.lt_iff]
theorem rcmp_tells {a b : R3} (ha : LR a) (hb : LR b) : Ev (fun k => rat_Cmp.f k a.1 a.2.1 a.2.2 b.1 b.2.1 b.2.2) (cmpS a b) := by
  have g1 := rgood_tells a.1 ha.t ha.b (by have := ha.lt; omega) (by have := ha.lb; omega)
  have g2 := rgood_tells b.1 hb.t hb.b (by have := hb.lt; omega) (by have := hb.lb; omega)
  refine goods (fun x k => rat_Cmp.j0 k x a.1 a.2.1 a.2.2 b.1 b.2.1 b.2.2) _ _ g1 g2 (fun _ _ => trivial) ?_ ?_
  · by_cases h : (goodB a && goodB b) = true
    · right; simpa using h
    · left
      unfold cmpS
      rw [if_neg h]
      exact Ev.step (f := fun _ => some 0) (fun k => by simp [rat_Cmp.j0]) (Ev.now _)
  · intro x1 x2
    have h1 : goodB a = true := x1
    have h2 : goodB b = true := x2
    unfold cmpS
    rw [h1, h2, Bool.and_true, if_pos rfl]
    obtain ⟨p, hp, rfl⟩ := good_iff.1 h1
    obtain ⟨q, hq, rfl⟩ := good_iff.1 h2
    rw [qOf_ratOf, qOf_ratOf]
    obtain ⟨f1, f2⟩ := fits_len hp
    obtain ⟨f3, f4⟩ := fits_len hq
    have c1 := len_mulZ p.num q.den
    have c2 := len_mulZ q.num p.den
    rw [Int.natAbs_natCast] at c1 c2
    have s3 := wcmp_tells (I (p.num * q.den)).1 (I_limbs (p.num * q.den)) (I (q.num * p.den)).1 (I_limbs (q.num * p.den)) (by rw [I_len]; omega) (by rw [I_len]; omega)
    rw [Z_I, Z_I, cmpZ_cmpQ] at s3
    refine Ev.step (f := fun k => ((rat_cross.f k (ratOf p).1 (ratOf p).2.1 (ratOf p).2.2 (ratOf q).1 (ratOf q).2.1 (ratOf q).2.2).bind fun bt507 => ((rat_cross.f k (ratOf q).1 (ratOf q).2.1 (ratOf q).2.2 (ratOf p).1 (ratOf p).2.1 (ratOf p).2.2).bind fun bt511 => ((whole_Cmp.f k bt507.1 bt507.2 bt511.1 bt511.2).bind fun t515 => (some t515))))) (fun k => by simp only [rat_Cmp.j0]; rw [if_neg (by simp)]) ?_
    exact Ev.bind (cross_tells hp hq) (Ev.bind (cross_tells hq hp) (Ev.bind s3 (Ev.now _)))
theorem rsign_tells {a : R3} (ha : LR a) : Ev (fun k => rat_Sign.f k a.1 a.2.1 a.2.2) (signS a) := by
  have g1 := rgood_tells a.1 ha.t ha.b (by have := ha.lt; omega) (by have := ha.lb; omega)
  refine Ev.bind g1 ?_
  unfold signS
  show Ev _ (if goodB a = true then _ else _)
  by_cases h : goodB a = true
  · rw [if_pos h]
    refine Ev.congr (fun k => if_pos h) ?_
    obtain ⟨p, hp, rfl⟩ := good_iff.1 h
    obtain ⟨f1, f2⟩ := fits_len hp
    rw [qOf_ratOf]
    have s := wcmp_tells (ratOf p).1 (l1 := (ratOf p).2.1) (N_limbs _) false (l2 := []) Limbs.nil (by show len p.num.natAbs < _; omega) (by show 0 < _; omega)
    rw [Z_ratOf, show Z false [] = 0 from rfl] at s
    have e : cmpZ p.num 0 = cmpQ p 0 := by
      have := cmpZ_cmpQ p 0
      rw [← this]
      simp
    rw [e] at s
    exact Ev.bind s (Ev.now _)
  · rw [if_neg h]
    exact Ev.congr (fun k => if_neg h) (Ev.now _)
theorem rsame_tells {a b : R3} (ha : LR a) (hb : LR b) : Ev (fun k => rat_Same.f k a.1 a.2.1 a.2.2 b.1 b.2.1 b.2.2) (sameS a b) := by
  have g1 := rgood_tells a.1 ha.t ha.b (by have := ha.lt; omega) (by have := ha.lb; omega)
  have g2 := rgood_tells b.1 hb.t hb.b (by have := hb.lt; omega) (by have := hb.lb; omega)
  have s1 := equal_tells a.2.1 b.2.1 (by have := ha.lt; omega)
  have s2 := equal_tells a.2.2 b.2.2 (by have := ha.lb; omega)
  refine Ev.bind g1 ?_
  obtain ⟨a1, a2, a3⟩ := a
  obtain ⟨b1, b2, b3⟩ := b
  unfold sameS
  dsimp only at *
  cases h1 : goodB (a1, a2, a3) with
  | false => exact Ev.congr (fun k => if_neg (by simp)) (Ev.now false)
  | true =>
    refine Ev.congr (fun k => if_pos rfl) (Ev.bind g2 ?_)
    cases h2 : goodB (b1, b2, b3) with
    | false => exact Ev.congr (fun k => if_neg (by simp)) (Ev.now false)
    | true =>
      refine Ev.congr (fun k => if_pos rfl) ?_
      rw [Bool.true_and, Bool.true_and]
      by_cases h3 : a1 = b1
      · refine Ev.congr (fun k => if_pos (by simpa using h3)) (Ev.bind s1 ?_)
        by_cases h4 : a2 = b2
        · refine Ev.congr (fun k => if_pos (decide_eq_true h4)) (Ev.bind s2 ?_)
          have : decide ((a1, a2, a3) = (b1, b2, b3)) = decide (a3 = b3) := by rw [decide_eq_decide]; simp [h3, h4]
          rw [this]
          exact Ev.now _
        · rw [decide_eq_false (show ¬ (a1, a2, a3) = (b1, b2, b3) from by simp [h4])]
          exact Ev.congr (fun k => if_neg (show ¬ decide (a2 = b2) = true from by simp [h4])) (Ev.now _)
      · rw [decide_eq_false (show ¬ (a1, a2, a3) = (b1, b2, b3) from by simp [h3])]
        exact Ev.congr (fun k => if_neg (by simpa using h3)) (Ev.now _)
theorem wof_tells (v : Int) (h0 : -9223372036854775808 ≤ v) (h1 : v ≤ 9223372036854775807) : Ev (fun k => whole_Of.f k v) (I v) := by
  have hl : len v.natAbs ≤ 2 := len_le.2 (by omega)
  by_cases h : v < 0
  · refine Ev.congr (fun k => if_pos h) ?_
    have e : IntKind.u64.wrap (-(IntKind.u64.wrap v)) = ((v.natAbs : Nat) : Int) := by rw [IntKind.wrap_u64, IntKind.wrap_u64]; omega
    rw [e]
    have s := nat_of_tells (v := ((v.natAbs : Nat) : Int)) (by omega) (by omega)
    rw [Int.toNat_natCast] at s
    have s2 := eta2 _ (made_tells true (N_limbs v.natAbs) (by rw [N_length]; omega))
    have e2 : Z true (N v.natAbs) = v := by unfold Z; rw [V_N, if_pos rfl]; omega
    rw [e2] at s2
    exact Ev.bind s s2
  · refine Ev.congr (fun k => if_neg h) ?_
    have e : IntKind.u64.wrap v = ((v.natAbs : Nat) : Int) := by rw [IntKind.wrap_u64]; omega
    rw [e]
    have s := nat_of_tells (v := ((v.natAbs : Nat) : Int)) (by omega) (by omega)
    rw [Int.toNat_natCast] at s
    have s2 := eta2 _ (made_tells false (N_limbs v.natAbs) (by rw [N_length]; omega))
    have e2 : Z false (N v.natAbs) = v := by unfold Z; rw [V_N, if_neg (by simp)]; omega
    rw [e2] at s2
    exact Ev.bind s s2
theorem ratOf_int (v : Int) : ratOf (v : Rat) = ((I v).1, (I v).2, N 1) := by
  unfold ratOf I
  rw [Rat.num_intCast, Rat.den_intCast]
theorem rwhole_tells (v : Int) (h0 : -9223372036854775808 ≤ v) (h1 : v ≤ 9223372036854775807) : Ev (fun k => rat_Whole.f k v) (ratOf (v : Rat)) := by
  rw [ratOf_int]
  have s2 := nat_of_tells (v := 1) (by omega) (by omega)
  exact Ev.bind (wof_tells v h0 h1) (Ev.bind s2 (Ev.now _))
theorem fits_int (v : Int) (h : v.natAbs < 18446744073709551616) : fits (v : Rat) = true := by
  unfold fits
  rw [Rat.num_intCast, Rat.den_intCast]
  have h1 : len v.natAbs ≤ 2 := len_le.2 (by omega)
  have h2 : len 1 ≤ 1 := len_le.2 (by omega)
  simp
  omega
end Go.Proofs.Yticngjjdjmadgaa.Num
end
section
set_option linter.unusedVariables false
set_option linter.unusedSimpArgs false
namespace Go.Proofs.Yticngjjdjmadgaa.Num
open Go.RowKit Go.Proofs.YticngjjdjmadgaaW.PrintWords Go.Proofs.YticngjjdjmadgaaW.PrintMore Go.Proofs.Yticngjjdjmadgaa.PL Go.Proofs.Yticngjjdjmadgaa.PU

theorem N_one : N 1 = [1] := by rw [N_pos (by omega), N_zero]; rfl
theorem is_one (g : Nat) : (if ((N g).length : Int) = 1 then (if 0 < ((N g).length : Int) then some (rd (N g) 0 == 1) else none) else some false) = some (decide (g = 1)) := by
  by_cases h : g = 1
  · subst h; rw [N_one]; rfl
  · rw [decide_eq_false h]
    by_cases h1 : len g = 1
    · rw [N_length, if_pos (by omega), if_pos (by omega)]
      have e : rd (N g) 0 = (g : Int) := by
        have h2 := rd_V (N_limbs g) 0
        have h3 := rd_nonneg (N_limbs g) ((0 : Nat) : Int)
        have h4 := len_le.1 (Nat.le_of_eq h1)
        rw [V_N, Nat.pow_zero, Nat.div_one] at h2
        rw [Nat.pow_one] at h4
        rw [Nat.mod_eq_of_lt h4] at h2
        have : rd (N g) 0 = rd (N g) ((0 : Nat) : Int) := rfl
        omega
      rw [e]
      congr 1
      exact beq_eq_false_iff_ne.2 (by omega)
    · rw [N_length, if_neg (by omega)]
structure LB (a : R3) : Prop where
  t : Limbs a.2.1
  b : Limbs a.2.2
  lt : a.2.1.length < 9223372036854775808
  lb : a.2.2.length < 9223372036854775808
theorem LR.wide {a : R3} (h : LR a) : LB a := ⟨h.t, h.b, by have := h.lt; omega, by have := h.lb; omega⟩
theorem good7_tells {a : R3} (ha : LB a) : Ev (fun k => steelyardref07_Good.f k a.1 a.2.1 a.2.2) (goodB a) := by
  obtain ⟨neg, l, b⟩ := a
  have hl := ha.t
  have hb := ha.b
  have hsl := ha.lt
  have hsb := ha.lb
  dsimp only at hl hb hsl hsb
  unfold goodB
  dsimp only
  refine Ev.congr (f := fun k => if decide (N (V l) = l) = true then (if decide (N (V b) = b) = true then (if (b.length : Int) = 0 then (some false) else (if neg = true then (if (l.length : Int) = 0 then (some false) else (if (l.length : Int) > 64 then (some false) else (if (b.length : Int) > 64 then (some false) else ((steelyardref03_Gcd.f k l b).bind fun t710 => (if (t710.length : Int) = 1 then (if 0 < (t710.length : Int) then (some ((rd t710 0) == 1)) else (none)) else (some false)))))) else (if (l.length : Int) > 64 then (some false) else (if (b.length : Int) > 64 then (some false) else ((steelyardref03_Gcd.f k l b).bind fun t714 => (if (t714.length : Int) = 1 then (if 0 < (t714.length : Int) then (some ((rd t714 0) == 1)) else (none)) else (some false))))))) else (some false)) else (some false)) (fun k => by
    unfold steelyardref07_Good.f
    rw [trimmed7_tells hl (by omega), trimmed7_tells hb (by omega)]
    rfl) ?_
  have s : l.length ≤ 64 → b.length ≤ 64 → Ev (fun k => (steelyardref03_Gcd.f k l b).bind fun t710 => (if (t710.length : Int) = 1 then (if 0 < (t710.length : Int) then (some ((rd t710 0) == 1)) else (none)) else (some false))) (decide (Nat.gcd (V l) (V b) = 1)) :=
    fun x1 x2 => Ev.bind (gcd3_tells hl hb (by omega) (by omega)) (Ev.congr (fun _ => is_one _) (Ev.now _))
  by_cases h1 : N (V l) = l
  · refine Ev.congr (fun k => if_pos (decide_eq_true h1)) ?_
    by_cases h2 : N (V b) = b
    · refine Ev.congr (fun k => if_pos (decide_eq_true h2)) ?_
      by_cases h3 : b.length = 0
      · exact Ev.congr (fun k => if_pos (by omega)) (by simpa [h3] using Ev.now false)
      · refine Ev.congr (fun k => if_neg (by omega)) ?_
        have rest : Ev (fun k => if (l.length : Int) > 64 then (some false) else (if (b.length : Int) > 64 then (some false) else ((steelyardref03_Gcd.f k l b).bind fun t710 => (if (t710.length : Int) = 1 then (if 0 < (t710.length : Int) then (some ((rd t710 0) == 1)) else (none)) else (some false))))) (decide (b.length ≤ 64) && decide (l.length ≤ 64) && decide (Nat.gcd (V l) (V b) = 1)) := by
          by_cases h5 : l.length ≤ 64
          · refine Ev.congr (fun k => if_neg (by omega)) ?_
            by_cases h4 : b.length ≤ 64
            · refine Ev.congr (fun k => if_neg (by omega)) ?_
              rw [decide_eq_true h4, decide_eq_true h5]
              exact s h5 h4
            · refine Ev.congr (fun k => if_pos (by omega)) ?_
              rw [decide_eq_false h4]
              exact Ev.now _
          · refine Ev.congr (fun k => if_pos (by omega)) ?_
            rw [decide_eq_false h5, Bool.and_false]
            exact Ev.now _
        rw [decide_eq_true h1, decide_eq_true h2, decide_eq_true h3]
        cases neg with
        | false =>
          refine Ev.congr (fun k => if_neg (by simp)) ?_
          simpa using rest
        | true =>
          refine Ev.congr (fun k => if_pos rfl) ?_
          by_cases h6 : l.length = 0
          · refine Ev.congr (fun k => if_pos (by omega)) ?_
            rw [decide_eq_true h6]
            simpa using Ev.now false
          · refine Ev.congr (fun k => if_neg (by omega)) ?_
            rw [decide_eq_false h6]
            simpa using rest
    · refine Ev.congr (fun k => if_neg (by simpa using h2)) ?_
      rw [decide_eq_false h2]
      simpa using Ev.now false
  · refine Ev.congr (fun k => if_neg (by simpa using h1)) ?_
    rw [decide_eq_false h1]
    simpa using Ev.now false
theorem keepint_tells (n1 : Bool) (l1 : List Int) (n2 : Bool) (l2 : List Int) (h : l1.length < 1099511627776) : Ev (fun k => steelyardkeep_Int.f k n1 l1 n2 l2) (decide ((n1, l1) = (n2, l2))) := by
  by_cases h1 : n1 = n2
  · have : decide ((n1, l1) = (n2, l2)) = decide (l1 = l2) := by rw [decide_eq_decide]; simp [h1]
    rw [this]
    exact Ev.congr (fun k => if_pos (by simpa using h1)) (Ev.bind (same_tells l1 l2 h) (Ev.now _))
  · rw [decide_eq_false (show ¬ (n1, l1) = (n2, l2) from by simp [h1])]
    exact Ev.congr (fun k => if_neg (by simpa using h1)) (Ev.now _)
theorem keep_tells (a b : R3) (h1 : a.2.1.length < 1099511627776) (h2 : a.2.2.length < 1099511627776) : Ev (fun k => steelyardkeep_Rat.f k a.1 a.2.1 a.2.2 b.1 b.2.1 b.2.2) (decide (a = b)) := by
  obtain ⟨a1, a2, a3⟩ := a
  obtain ⟨b1, b2, b3⟩ := b
  refine Ev.bind (keepint_tells a1 a2 b1 b2 h1) ?_
  by_cases h : (a1, a2) = (b1, b2)
  · have e : decide ((a1, a2, a3) = (b1, b2, b3)) = decide (a3 = b3) := by
      rw [decide_eq_decide]
      simp only [Prod.mk.injEq] at h ⊢
      simp [h]
    rw [e]
    exact Ev.congr (fun k => if_pos (decide_eq_true h)) (Ev.bind (same_tells a3 b3 h2) (Ev.now _))
  · have e : decide ((a1, a2, a3) = (b1, b2, b3)) = false := decide_eq_false (fun h3 => h (by simp only [Prod.mk.injEq] at h3 ⊢; exact ⟨h3.1, h3.2.1⟩))
    rw [e]
    exact Ev.congr (fun k => if_neg (show ¬ decide ((a1, a2) = (b1, b2)) = true from by rw [decide_eq_false h]; simp)) (Ev.now _)
theorem own_tells (a : R3) (h1 : a.2.1.length < 1099511627776) (h2 : a.2.2.length < 1099511627776) : steelyardkeep_OwnRat.f a.1 a.2.1 a.2.2 = some a := by
  unfold steelyardkeep_OwnRat.f steelyardkeep_OwnInt.f steelyardkeep_OwnNat.f
  simp only [Option.bind_some, List.nil_append, List.length_nil, Nat.zero_add]
  rw [if_pos (by omega), if_pos (by omega)]
  rfl

end Go.Proofs.Yticngjjdjmadgaa.Num
end
section
set_option linter.unusedVariables false
set_option linter.unusedSimpArgs false
namespace Go.Proofs.Yticngjjdjmadgaa.Num
open Go.RowKit Go.Proofs.YticngjjdjmadgaaW.PrintWords Go.Proofs.YticngjjdjmadgaaW.PrintMore Go.Proofs.Yticngjjdjmadgaa.PL Go.Proofs.Yticngjjdjmadgaa.PU

theorem cmpQ_neg1 {p q : Rat} (h : p < q) : cmpQ p q = -1 := if_pos h
theorem cmpQ_pos1 {p q : Rat} (h : q < p) : cmpQ p q = 1 := by
  unfold cmpQ
  rw [if_neg (by grind), if_pos h]
theorem cmpQ_self (p : Rat) : cmpQ p p = 0 := by
  unfold cmpQ
  rw [if_neg (by grind), if_neg (by grind)]
theorem cmpQ_cases (p q : Rat) : (p < q ∧ cmpQ p q = -1) ∨ (p = q ∧ cmpQ p q = 0) ∨ (q < p ∧ cmpQ p q = 1) := by
  by_cases h : p < q
  · exact Or.inl ⟨h, cmpQ_neg1 h⟩
  · by_cases h2 : q < p
    · exact Or.inr (Or.inr ⟨h2, cmpQ_pos1 h2⟩)
    · have e : p = q := by grind
      exact Or.inr (Or.inl ⟨e, by rw [e]; exact cmpQ_self q⟩)
end Go.Proofs.Yticngjjdjmadgaa.Num
end
section
set_option linter.unusedVariables false
set_option linter.unusedSimpArgs false
namespace Go.Proofs.Yticngjjdjmadgaa.Num
open Go.RowKit Go.Proofs.YticngjjdjmadgaaW.PrintWords Go.Proofs.YticngjjdjmadgaaW.PrintMore Go.Proofs.Yticngjjdjmadgaa.PL Go.Proofs.Yticngjjdjmadgaa.PU

theorem wakes7 : Ev (fun k => steelyardlaw07_wakes.f k) true := Ev.of steelyardlaw07_wakes.mono (k := 200) (by decide +kernel)
end Go.Proofs.Yticngjjdjmadgaa.Num
end
section
set_option linter.unusedVariables false
set_option linter.unusedSimpArgs false
namespace Go.Proofs.Yticngjjdjmadgaa.Num
open Go.RowKit Go.Proofs.YticngjjdjmadgaaW.PrintWords Go.Proofs.YticngjjdjmadgaaW.PrintMore Go.Proofs.Yticngjjdjmadgaa.PL Go.Proofs.Yticngjjdjmadgaa.PU
open Go.Proofs.Yticngjjdjmadgaa.Den (U)

abbrev ur (a : R3) : U := .agg [.v (.bool a.1), .l a.2.1, .l a.2.2]
abbrev ui (n : Int) : U := .v (.int .i64 n)
abbrev ub (b : Bool) : U := .v (.bool b)
abbrev ut (a : R4) : U := .tup [.agg [.v (.bool a.1), .l a.2.1, .l a.2.2.1], .v (.int .i64 a.2.2.2)]
theorem good7_R {a : R3} (ha : LB a) : steelyardref07_Good.R [ur a] (ub (goodB a)) := by obtain ⟨k, hk⟩ := (good7_tells ha).rounds; exact steelyardref07_Good.I hk
theorem good_R {a : R3} (ha : LB a) : rat_Good.R [ur a] (ub (goodB a)) := by obtain ⟨k, hk⟩ := (rgood_tells a.1 ha.t ha.b ha.lt ha.lb).rounds; exact rat_Good.I hk
theorem wakes7_R : steelyardlaw07_wakes.R [] (ub true) := by obtain ⟨k, hk⟩ := wakes7.rounds; exact steelyardlaw07_wakes.I hk
theorem add_R {a b : R3} (ha : LR a) (hb : LR b) : rat_Add.R [ur a, ur b] (ut (addS a b)) := by obtain ⟨k, hk⟩ := (radd_tells ha hb).rounds; exact rat_Add.I (r1 := (addS a b).1) (r2 := (addS a b).2.1) (r3 := (addS a b).2.2.1) (r4 := (addS a b).2.2.2) hk
theorem sub_R {a b : R3} (ha : LR a) (hb : LR b) : rat_Sub.R [ur a, ur b] (ut (subS a b)) := by obtain ⟨k, hk⟩ := (rsub_tells ha hb).rounds; exact rat_Sub.I (r1 := (subS a b).1) (r2 := (subS a b).2.1) (r3 := (subS a b).2.2.1) (r4 := (subS a b).2.2.2) hk
theorem mul_R {a b : R3} (ha : LR a) (hb : LR b) : rat_Mul.R [ur a, ur b] (ut (mulS a b)) := by obtain ⟨k, hk⟩ := (rmul_tells ha hb).rounds; exact rat_Mul.I (r1 := (mulS a b).1) (r2 := (mulS a b).2.1) (r3 := (mulS a b).2.2.1) (r4 := (mulS a b).2.2.2) hk
theorem div_R {a b : R3} (ha : LR a) (hb : LR b) : rat_Div.R [ur a, ur b] (ut (divS a b)) := by obtain ⟨k, hk⟩ := (rdiv_tells ha hb).rounds; exact rat_Div.I (r1 := (divS a b).1) (r2 := (divS a b).2.1) (r3 := (divS a b).2.2.1) (r4 := (divS a b).2.2.2) hk
theorem neg_R {a : R3} (ha : LR a) : rat_Neg.R [ur a] (ur (negS a)) := by obtain ⟨k, hk⟩ := (rneg_tells ha).rounds; exact rat_Neg.I (r1 := (negS a).1) (r2 := (negS a).2.1) (r3 := (negS a).2.2) hk
theorem cmp_R {a b : R3} (ha : LR a) (hb : LR b) : rat_Cmp.R [ur a, ur b] (ui (cmpS a b)) := by obtain ⟨k, hk⟩ := (rcmp_tells ha hb).rounds; exact rat_Cmp.I hk
theorem sign_R {a : R3} (ha : LR a) : rat_Sign.R [ur a] (ui (signS a)) := by obtain ⟨k, hk⟩ := (rsign_tells ha).rounds; exact rat_Sign.I hk
theorem same_R {a b : R3} (ha : LR a) (hb : LR b) : rat_Same.R [ur a, ur b] (ub (sameS a b)) := by obtain ⟨k, hk⟩ := (rsame_tells ha hb).rounds; exact rat_Same.I hk
theorem keep_R {a b : R3} (ha : LR a) : steelyardkeep_Rat.R [ur a, ur b] (ub (decide (a = b))) := by obtain ⟨k, hk⟩ := (keep_tells a b (by have := ha.lt; omega) (by have := ha.lb; omega)).rounds; exact steelyardkeep_Rat.I hk
theorem keep_S {a : R3} (ha : LR a) : steelyardkeep_Rat.R [ur a, ur a] (ub true) := by have := keep_R ha (b := a); rw [decide_eq_true rfl] at this; exact this
theorem whole_R (v : Int) (h0 : -9223372036854775808 ≤ v) (h1 : v ≤ 9223372036854775807) : rat_Whole.R [ui v] (ur (ratOf v)) := by obtain ⟨k, hk⟩ := (rwhole_tells v h0 h1).rounds; exact rat_Whole.I (r1 := (ratOf (v : Rat)).1) (r2 := (ratOf (v : Rat)).2.1) (r3 := (ratOf (v : Rat)).2.2) hk
theorem keep_F {p : Rat} (hp : fits p = true) : steelyardkeep_Rat.R [ur (ratOf p), ur (ratOf p)] (ub true) := keep_S (LR_ratOf hp)
end Go.Proofs.Yticngjjdjmadgaa.Num
end
section
set_option linter.unusedVariables false
set_option linter.unusedSimpArgs false
namespace Go.Proofs.Yticngjjdjmadgaa.Num
open Go.RowKit Go.Proofs.YticngjjdjmadgaaW.PrintWords Go.Proofs.YticngjjdjmadgaaW.PrintMore Go.Proofs.Yticngjjdjmadgaa.PL Go.Proofs.Yticngjjdjmadgaa.PU

theorem make6_tells (neg : Bool) {l : List Int} (hl : Limbs l) (hs : l.length < 35184372088832) : Ev (fun k => steelyardref06_Make.f k neg l) (I (Z neg l)) :=
  Ev.bind (trim1_tells hl hs) (Ev.congr (fun _ => made_eq neg l) (Ev.now _))
theorem trim6_tells (neg : Bool) {l : List Int} (hl : Limbs l) (hs : l.length < 35184372088832) : Ev (fun k => steelyardref06_Trim.f k neg l) (I (Z neg l)) := eta2 _ (make6_tells neg hl hs)
theorem neg6_tells (neg : Bool) {l : List Int} (hl : Limbs l) (hs : l.length < 35184372088832) : Ev (fun k => steelyardref06_Neg.f k neg l) (I (-Z neg l)) := by
  have := eta2 _ (make6_tells (!neg) hl hs)
  have e : Z (!neg) l = -Z neg l := by unfold Z; cases neg <;> simp
  rw [e] at this
  exact this
theorem sign_mul (x y : Int) : Z (decide (x < 0) != decide (y < 0)) (N (x.natAbs * y.natAbs)) = x * y := by
  unfold Z
  rw [V_N, Int.natCast_mul]
  by_cases hx : x < 0 <;> by_cases hy : y < 0
  · rw [decide_eq_true hx, decide_eq_true hy, if_neg (by decide), show ((x.natAbs : Nat) : Int) = -x from by omega, show ((y.natAbs : Nat) : Int) = -y from by omega, Int.neg_mul_neg]
  · rw [decide_eq_true hx, decide_eq_false hy, if_pos (by decide), show ((x.natAbs : Nat) : Int) = -x from by omega, show ((y.natAbs : Nat) : Int) = y from by omega, Int.neg_mul, Int.neg_neg]
  · rw [decide_eq_false hx, decide_eq_true hy, if_pos (by decide), show ((x.natAbs : Nat) : Int) = x from by omega, show ((y.natAbs : Nat) : Int) = -y from by omega, Int.mul_neg, Int.neg_neg]
  · rw [decide_eq_false hx, decide_eq_false hy, if_neg (by decide), show ((x.natAbs : Nat) : Int) = x from by omega, show ((y.natAbs : Nat) : Int) = y from by omega]
theorem mul6_tells (n1 : Bool) {l1 : List Int} (h1 : Limbs l1) (n2 : Bool) {l2 : List Int} (h2 : Limbs l2) (hs1 : l1.length < 1073741824) (hs2 : l2.length < 1073741824) : Ev (fun k => steelyardref06_Mul.f k n1 l1 n2 l2) (I (Z n1 l1 * Z n2 l2)) := by
  have hb : len (V l1 * V l2) ≤ l1.length + l2.length := len_le.2 (by rw [Nat.pow_add]; exact Nat.mul_lt_mul'' (V_lt h1) (V_lt h2))
  have s := eta2 _ (make6_tells (decide (Z n1 l1 < 0) != decide (Z n2 l2 < 0)) (N_limbs (V l1 * V l2)) (by rw [N_length]; omega))
  have e := sign_mul (Z n1 l1) (Z n2 l2)
  rw [Z_abs, Z_abs] at e
  rw [e] at s
  exact Ev.bind (trim6_tells n1 h1 (by omega)) (Ev.bind (trim6_tells n2 h2 (by omega)) (Ev.bind (mul2_tells h1 h2 (by omega) (by omega)) s))
theorem add6_tells (n1 : Bool) {l1 : List Int} (h1 : Limbs l1) (n2 : Bool) {l2 : List Int} (h2 : Limbs l2) (hs1 : l1.length < 1073741824) (hs2 : l2.length < 1073741824) : Ev (fun k => steelyardref06_Add.f k n1 l1 n2 l2) (I (Z n1 l1 + Z n2 l2)) := by
  have b1 : len (Z n1 l1).natAbs ≤ l1.length := by rw [Z_abs]; exact len_V h1
  have b2 : len (Z n2 l2).natAbs ≤ l2.length := by rw [Z_abs]; exact len_V h2
  refine Ev.bind (trim6_tells n1 h1 (by omega)) (Ev.bind (trim6_tells n2 h2 (by omega)) ?_)
  generalize Z n1 l1 = x at *
  generalize Z n2 l2 = y at *
  by_cases hc : (decide (x < 0) == decide (y < 0)) = true
  · refine Ev.congr (fun k => if_pos hc) ?_
    have s := add1_tells (I_limbs x) (I_limbs y) (by rw [I_len]; omega) (by rw [I_len]; omega)
    rw [V_I, V_I] at s
    have hb := len_add x.natAbs y.natAbs
    have e : Z (I x).1 (N (x.natAbs + y.natAbs)) = x + y := by
      unfold Z
      rw [V_N, I_1]
      simp only [decide_eq_true_eq, beq_iff_eq, decide_eq_decide] at hc ⊢
      split <;> omega
    have s2 := eta2 _ (make6_tells (I x).1 (N_limbs (x.natAbs + y.natAbs)) (by rw [N_length]; omega))
    rw [e] at s2
    exact Ev.bind s s2
  · refine Ev.congr (fun k => if_neg hc) ?_
    have s := cmp1_tells (I_limbs x) (I_limbs y) (by rw [I_len]; omega) (by rw [I_len]; omega)
    rw [V_I, V_I] at s
    simp only [beq_iff_eq, decide_eq_decide] at hc
    by_cases hlt : x.natAbs < y.natAbs
    · have e0 : cmpN x.natAbs y.natAbs = -1 := if_pos hlt
      rw [e0] at s
      have s' := sub1_tells (I_limbs y) (I_limbs x) (by rw [I_len]; omega) (by rw [V_I, V_I]; omega)
      rw [V_I, V_I] at s'
      have e : Z (I y).1 (N (y.natAbs - x.natAbs)) = x + y := by
        unfold Z
        rw [V_N, I_1]
        simp only [decide_eq_true_eq]
        split <;> omega
      have hb : len (y.natAbs - x.natAbs) ≤ l2.length := Nat.le_trans (len_mono (by omega)) b2
      have s2 := eta2 _ (make6_tells (I y).1 (N_limbs (y.natAbs - x.natAbs)) (by rw [N_length]; omega))
      rw [e] at s2
      exact Ev.bind s (Ev.congr (fun k => if_neg (by omega)) (Ev.bind s' s2))
    · have e0 : cmpN x.natAbs y.natAbs ≥ 0 := by
        unfold cmpN
        rw [if_neg hlt]
        split <;> omega
      have s' := sub1_tells (I_limbs x) (I_limbs y) (by rw [I_len]; omega) (by rw [V_I, V_I]; omega)
      rw [V_I, V_I] at s'
      have e : Z (I x).1 (N (x.natAbs - y.natAbs)) = x + y := by
        unfold Z
        rw [V_N, I_1]
        simp only [decide_eq_true_eq]
        split <;> omega
      have hb : len (x.natAbs - y.natAbs) ≤ l1.length := Nat.le_trans (len_mono (by omega)) b1
      have s2 := eta2 _ (make6_tells (I x).1 (N_limbs (x.natAbs - y.natAbs)) (by rw [N_length]; omega))
      rw [e] at s2
      exact Ev.bind s (Ev.congr (fun k => if_pos e0) (Ev.bind s' s2))
theorem cmp6_tells (n1 : Bool) {l1 : List Int} (h1 : Limbs l1) (n2 : Bool) {l2 : List Int} (h2 : Limbs l2) (hs1 : l1.length < 1073741824) (hs2 : l2.length < 1073741824) : Ev (fun k => steelyardref06_Cmp.f k n1 l1 n2 l2) (cmpZ (Z n1 l1) (Z n2 l2)) := by
  have b1 : len (Z n1 l1).natAbs ≤ l1.length := by rw [Z_abs]; exact len_V h1
  have b2 : len (Z n2 l2).natAbs ≤ l2.length := by rw [Z_abs]; exact len_V h2
  refine Ev.bind (trim6_tells n1 h1 (by omega)) (Ev.bind (trim6_tells n2 h2 (by omega)) ?_)
  generalize Z n1 l1 = x at *
  generalize Z n2 l2 = y at *
  have s := cmp1_tells (I_limbs x) (I_limbs y) (by rw [I_len]; omega) (by rw [I_len]; omega)
  have s' := cmp1_tells (I_limbs y) (I_limbs x) (by rw [I_len]; omega) (by rw [I_len]; omega)
  rw [V_I, V_I] at s s'
  by_cases hx : x < 0 <;> by_cases hy : y < 0
  · have e : cmpN y.natAbs x.natAbs = cmpZ x y := by
      unfold cmpN cmpZ
      split <;> split <;> omega
    rw [e] at s'
    have ex : (I x).1 = true := decide_eq_true hx
    have ey : (I y).1 = true := decide_eq_true hy
    refine Ev.congr (fun k => by rw [if_pos ex, ey, ex]) ?_
    refine Ev.step (f := fun k => steelyardref06_Cmp.j1 k false true (I x).2 true (I y).2) (fun k => by simp [steelyardref06_Cmp.j0]) ?_
    exact Ev.step (f := fun k => (steelyardref01_Cmp.f k (I y).2 (I x).2).bind fun t => some t) (fun k => by simp [steelyardref06_Cmp.j1]) (Ev.bind s' (Ev.now _))
  · have e : cmpZ x y = -1 := by unfold cmpZ; rw [if_pos (by omega)]
    rw [e]
    have ex : (I x).1 = true := decide_eq_true hx
    have ey : (I y).1 = false := decide_eq_false hy
    refine Ev.congr (fun k => by rw [if_pos ex, ey, ex]) ?_
    exact Ev.step (f := fun _ => some (-1)) (fun k => by simp [steelyardref06_Cmp.j0]) (Ev.now _)
  · have e : cmpZ x y = 1 := by unfold cmpZ; rw [if_neg (by omega), if_pos (by omega)]
    rw [e]
    have ex : (I x).1 = false := decide_eq_false hx
    have ey : (I y).1 = true := decide_eq_true hy
    refine Ev.congr (fun k => by rw [if_neg (by rw [ex]; simp), ey, ex]) ?_
    refine Ev.step (f := fun k => steelyardref06_Cmp.j1 k true false (I x).2 true (I y).2) (fun k => by simp [steelyardref06_Cmp.j0]) ?_
    exact Ev.step (f := fun _ => some 1) (fun k => by simp [steelyardref06_Cmp.j1]) (Ev.now _)
  · have e : cmpN x.natAbs y.natAbs = cmpZ x y := by
      unfold cmpN cmpZ
      split <;> split <;> omega
    rw [e] at s
    have ex : (I x).1 = false := decide_eq_false hx
    have ey : (I y).1 = false := decide_eq_false hy
    refine Ev.congr (fun k => by rw [if_neg (by rw [ex]; simp), ey, ex]) ?_
    refine Ev.step (f := fun k => steelyardref06_Cmp.j1 k false false (I x).2 false (I y).2) (fun k => by simp [steelyardref06_Cmp.j0]) ?_
    exact Ev.step (f := fun k => (steelyardref01_Cmp.f k (I x).2 (I y).2).bind fun t => some t) (fun k => by simp [steelyardref06_Cmp.j1]) (Ev.bind s (Ev.now _))
theorem of6_tells (v : Int) (h0 : -9223372036854775808 ≤ v) (h1 : v ≤ 9223372036854775807) : Ev (fun k => steelyardref06_Of.f k v) (I v) := by
  have hl : len v.natAbs ≤ 2 := len_le.2 (by omega)
  by_cases h : v < 0
  · refine Ev.congr (fun k => if_pos h) ?_
    have e : IntKind.u64.wrap (IntKind.u64.wrap (wrap64 (-(wrap64 (v + 1)))) + 1) = ((v.natAbs : Nat) : Int) := by
      rw [w64 (x := v + 1) (by omega) (by omega), w64 (x := -(v + 1)) (by omega) (by omega), IntKind.wrap_u64, IntKind.wrap_u64]
      omega
    rw [e]
    have s := of1_tells (v := ((v.natAbs : Nat) : Int)) (by omega) (by omega)
    rw [Int.toNat_natCast] at s
    have s2 := eta2 _ (make6_tells true (N_limbs v.natAbs) (by rw [N_length]; omega))
    have e2 : Z true (N v.natAbs) = v := by unfold Z; rw [V_N, if_pos rfl]; omega
    rw [e2] at s2
    exact Ev.bind s s2
  · refine Ev.congr (fun k => if_neg h) ?_
    have e : IntKind.u64.wrap v = ((v.natAbs : Nat) : Int) := by rw [IntKind.wrap_u64]; omega
    rw [e]
    have s := of1_tells (v := ((v.natAbs : Nat) : Int)) (by omega) (by omega)
    rw [Int.toNat_natCast] at s
    have s2 := eta2 _ (make6_tells false (N_limbs v.natAbs) (by rw [N_length]; omega))
    have e2 : Z false (N v.natAbs) = v := by unfold Z; rw [V_N, if_neg (by simp)]; omega
    rw [e2] at s2
    exact Ev.bind s s2
theorem whole7_tells (v : Int) (h0 : -9223372036854775808 ≤ v) (h1 : v ≤ 9223372036854775807) : Ev (fun k => steelyardref07_Whole.f k v) (ratOf (v : Rat)) := by
  rw [ratOf_int]
  refine Ev.bind (of6_tells v h0 h1) (Ev.congr (fun k => ?_) (Ev.now _))
  rw [N_one]
theorem wide7_tells (neg : Bool) {l b : List Int} (hl : Limbs l) (hb : Limbs b) (hsl : l.length < 134217728) (hsb : b.length < 134217728) (hz : V b ≠ 0) :
    Ev (fun k => steelyardref07_Wide.f k neg l b) (ratOf (mkRat (Z neg l) (V b))) := by
  have bl : len (Z neg l).natAbs ≤ l.length := by rw [Z_abs]; exact len_V hl
  have bb := len_V hb
  have s0 := trim6_tells neg hl (by omega)
  generalize Z neg l = z at *
  have s1 := gcd3_tells (I_limbs z) hb (by rw [I_len]; omega) (by omega)
  rw [V_I] at s1
  obtain ⟨p1, p2, p3⟩ := mk_parts z (V b) hz
  have hg : 0 < Nat.gcd z.natAbs (V b) := Nat.gcd_pos_of_pos_right _ (by omega)
  have hgb : len (Nat.gcd z.natAbs (V b)) ≤ len (V b) := len_mono (Nat.gcd_le_right _ (by omega))
  have s2 := rem3_tells (I_limbs z) (N_limbs (Nat.gcd z.natAbs (V b))) (by rw [I_len]; omega) (by rw [N_length]; omega)
  rw [V_I, V_N, if_neg (by omega), ← p1] at s2
  have s3 := rem3_tells hb (N_limbs (Nat.gcd z.natAbs (V b))) (by omega) (by rw [N_length]; omega)
  rw [V_N, if_neg (by omega), ← p2] at s3
  have hx : len (mkRat z (V b)).num.natAbs ≤ l.length := by
    rw [p1]
    exact Nat.le_trans (len_mono (Nat.div_le_self _ _)) bl
  have s4 := make6_tells (I z).1 (N_limbs (mkRat z (V b)).num.natAbs) (by rw [N_length]; omega)
  have e : Z (I z).1 (N (mkRat z (V b)).num.natAbs) = (mkRat z (V b)).num := by
    rw [I_1, ← p3]
    exact Z_I _
  rw [e] at s4
  exact Ev.bind s0 (Ev.bind s1 (Ev.bind s2 (Ev.bind s4 (Ev.bind s3 (Ev.now _)))))
theorem limit7 (q : Rat) : steelyardref07_Limit.f (ratOf q).1 (ratOf q).2.1 (ratOf q).2.2 = some (lim q) := by
  unfold steelyardref07_Limit.f lim fits ratOf bad
  dsimp only
  rw [N_length, N_length]
  by_cases h1 : len q.num.natAbs ≤ 64
  · rw [if_neg (by omega)]
    by_cases h2 : len q.den ≤ 64
    · rw [if_neg (by omega), if_pos (by simp [h1, h2])]
    · rw [if_pos (by omega), if_neg (by simp [h2])]
  · rw [if_pos (by omega), if_neg (by simp [h1])]
theorem lim7 {f : Nat → Option R3} {q : Rat} (h : Ev f (ratOf q)) : Ev (fun k => (f k).bind fun b => (steelyardref07_Limit.f b.1 b.2.1 b.2.2).bind fun c => some (c.1, c.2.1, c.2.2.1, c.2.2.2)) (lim q) :=
  Ev.bind h (Ev.congr (fun k => by rw [limit7]; rfl) (Ev.now _))
theorem pos7_tells {l : List Int} (hl : Limbs l) (hs : l.length < 35184372088832) : Ev (fun k => steelyardref07_pos.f k l) (I ((V l : Nat) : Int)) := by
  have s := eta2 _ (make6_tells false hl hs)
  have e : Z false l = ((V l : Nat) : Int) := by unfold Z; rw [if_neg (by simp)]
  rw [e] at s
  exact s
theorem cross7_tells {p q : Rat} (hp : fits p = true) (hq : fits q = true) : Ev (fun k => steelyardref06_Mul.f k (ratOf p).1 (ratOf p).2.1 (I ((q.den : Nat) : Int)).1 (I ((q.den : Nat) : Int)).2) (I (p.num * q.den)) := by
  obtain ⟨h1, h2⟩ := fits_len hp
  obtain ⟨h3, h4⟩ := fits_len hq
  have s := mul6_tells (ratOf p).1 (l1 := (ratOf p).2.1) (N_limbs _) (I ((q.den : Nat) : Int)).1 (I_limbs ((q.den : Nat) : Int)) (by show len p.num.natAbs < _; omega) (by rw [I_len, Int.natAbs_natCast]; omega)
  rw [Z_ratOf, Z_I] at s
  exact s
theorem den7_tells {q : Rat} (hq : fits q = true) : Ev (fun k => steelyardref07_pos.f k (ratOf q).2.2) (I ((q.den : Nat) : Int)) := by
  obtain ⟨h3, h4⟩ := fits_len hq
  have s := pos7_tells (l := (ratOf q).2.2) (N_limbs _) (by show len q.den < _; omega)
  rw [V_ratOf] at s
  exact s
theorem plus7_tells {p q : Rat} (hp : fits p = true) (hq : fits q = true) : Ev (fun k => steelyardref07_Plus.f k (ratOf p).1 (ratOf p).2.1 (ratOf p).2.2 (ratOf q).1 (ratOf q).2.1 (ratOf q).2.2) (ratOf (p + q)) := by
  obtain ⟨f1, f2⟩ := fits_len hp
  obtain ⟨f3, f4⟩ := fits_len hq
  have c1 := len_mulZ p.num q.den
  have c2 := len_mulZ q.num p.den
  have c3 := len_mul p.den q.den
  rw [Int.natAbs_natCast] at c1 c2
  have s3 := add6_tells (I (p.num * q.den)).1 (I_limbs (p.num * q.den)) (I (q.num * p.den)).1 (I_limbs (q.num * p.den)) (by rw [I_len]; omega) (by rw [I_len]; omega)
  rw [Z_I, Z_I] at s3
  have s4 := mul2_tells (a := (ratOf p).2.2) (b := (ratOf q).2.2) (N_limbs _) (N_limbs _) (by show len p.den < _; omega) (by show len q.den < _; omega)
  rw [V_ratOf, V_ratOf] at s4
  have c4 := len_addZ (p.num * q.den) (q.num * p.den)
  have s5 := wide7_tells (I (p.num * q.den + q.num * p.den)).1 (I_limbs (p.num * q.den + q.num * p.den)) (N_limbs (p.den * q.den)) (by rw [I_len]; omega) (by rw [N_length]; omega) (by rw [V_N]; exact Nat.mul_ne_zero p.den_nz q.den_nz)
  rw [Z_I, V_N, ← Rat.add_def'] at s5
  exact Ev.bind (den7_tells hq) (Ev.bind (cross7_tells hp hq) (Ev.bind (den7_tells hp) (Ev.bind (cross7_tells hq hp) (Ev.bind s3 (Ev.bind s4 (Ev.bind s5 (Ev.now _)))))))
theorem less7_tells {p q : Rat} (hp : fits p = true) (hq : fits q = true) : Ev (fun k => steelyardref07_Less.f k (ratOf p).1 (ratOf p).2.1 (ratOf p).2.2 (ratOf q).1 (ratOf q).2.1 (ratOf q).2.2) (cmpQ p q) := by
  obtain ⟨f1, f2⟩ := fits_len hp
  obtain ⟨f3, f4⟩ := fits_len hq
  have c1 := len_mulZ p.num q.den
  have c2 := len_mulZ q.num p.den
  rw [Int.natAbs_natCast] at c1 c2
  have s3 := cmp6_tells (I (p.num * q.den)).1 (I_limbs (p.num * q.den)) (I (q.num * p.den)).1 (I_limbs (q.num * p.den)) (by rw [I_len]; omega) (by rw [I_len]; omega)
  rw [Z_I, Z_I, cmpZ_cmpQ] at s3
  exact Ev.bind (den7_tells hq) (Ev.bind (cross7_tells hp hq) (Ev.bind (den7_tells hp) (Ev.bind (cross7_tells hq hp) (Ev.bind s3 (Ev.now _)))))
theorem times7_tells {p : Rat} (hp : fits p = true) (n2 : Bool) {l2 b2 : List Int} (hl : Limbs l2) (hb : Limbs b2) (hsl : l2.length ≤ 64) (hsb : b2.length ≤ 64) (hz : V b2 ≠ 0) :
    Ev (fun k => steelyardref07_Times.f k (ratOf p).1 (ratOf p).2.1 (ratOf p).2.2 n2 l2 b2) (ratOf (mkRat (p.num * Z n2 l2) (p.den * V b2))) := by
  obtain ⟨f1, f2⟩ := fits_len hp
  have bl : len (Z n2 l2).natAbs ≤ l2.length := by rw [Z_abs]; exact len_V hl
  have bb := len_V hb
  have c1 := len_mulZ p.num (Z n2 l2)
  have c3 := len_mul p.den (V b2)
  have hn2 : l2.length < 1073741824 := by omega
  have s3 := mul6_tells (ratOf p).1 (l1 := (ratOf p).2.1) (N_limbs _) n2 hl (by show len p.num.natAbs < _; omega) hn2
  rw [Z_ratOf] at s3
  have s4 := mul2_tells (a := (ratOf p).2.2) (b := b2) (N_limbs _) hb (by show len p.den < _; omega) (by omega)
  rw [V_ratOf] at s4
  have s5 := wide7_tells (I (p.num * Z n2 l2)).1 (I_limbs (p.num * Z n2 l2)) (N_limbs (p.den * V b2)) (by rw [I_len]; omega) (by rw [N_length]; omega) (by rw [V_N]; exact Nat.mul_ne_zero p.den_nz hz)
  rw [Z_I, V_N] at s5
  exact Ev.bind s3 (Ev.bind s4 (Ev.bind s5 (Ev.now _)))
theorem both7 {a b : R3} (ha : LB a) (hb : LB b) (j : Nat → Bool → Option R4) (S : Rat → Rat → R4) (hno : Ev (fun k => j k true) (bad 1)) (hyes : ∀ p q, fits p = true → fits q = true → a = ratOf p → b = ratOf q → Ev (fun k => j k false) (S p q)) :
    Ev (fun k => (steelyardref07_Good.f k a.1 a.2.1 a.2.2).bind fun t => (if t = true then ((steelyardref07_Good.f k b.1 b.2.1 b.2.2).bind fun u => j k (!u)) else j k true)) (if (goodB a && goodB b) = true then S (qOf a) (qOf b) else bad 1) := by
  refine Ev.bind (good7_tells ha) ?_
  by_cases hg : goodB a = true
  · refine Ev.congr (fun k => if_pos hg) (Ev.bind (good7_tells hb) ?_)
    by_cases hh : goodB b = true
    · obtain ⟨p, hp, rfl⟩ := good_iff.1 hg
      obtain ⟨q, hq, rfl⟩ := good_iff.1 hh
      rw [hg, hh, Bool.true_and, if_pos rfl, qOf_ratOf, qOf_ratOf]
      exact hyes p q hp hq rfl rfl
    · rw [Bool.eq_false_iff.2 hh, Bool.and_false, if_neg (by simp)]
      exact hno
  · rw [Bool.eq_false_iff.2 hg, Bool.false_and, if_neg (by simp)]
    exact Ev.congr (fun k => if_neg (by simp)) hno
theorem add7_tells {a b : R3} (ha : LB a) (hb : LB b) : Ev (fun k => steelyardref07_Add.f k a.1 a.2.1 a.2.2 b.1 b.2.1 b.2.2) (addS a b) := by
  refine both7 ha hb (fun k x => steelyardref07_Add.j0 k x a.1 a.2.1 a.2.2 b.1 b.2.1 b.2.2) (fun p q => lim (p + q)) ?_ ?_
  · exact Ev.step (f := fun _ => some (bad 1)) (fun k => by simp [steelyardref07_Add.j0, bad]) (Ev.now _)
  · rintro p q hp hq rfl rfl
    exact Ev.step (fun k => steelyardref07_Add.j0.eq_2 _ _ _ _ _ _ _ k) (Ev.congr (fun k => if_neg (by simp)) (lim7 (plus7_tells hp hq)))
theorem neg7_tells {a : R3} (ha : LB a) : Ev (fun k => steelyardref07_Neg.f k a.1 a.2.1 a.2.2) (negS a) := by
  refine Ev.bind (good7_tells ha) ?_
  unfold negS none3
  show Ev _ (if goodB a = true then _ else _)
  by_cases h : goodB a = true
  · rw [if_pos h]
    refine Ev.congr (fun k => if_pos h) ?_
    obtain ⟨p, hp, rfl⟩ := good_iff.1 h
    obtain ⟨f1, f2⟩ := fits_len hp
    rw [qOf_ratOf]
    have s := neg6_tells (ratOf p).1 (l := (ratOf p).2.1) (N_limbs _) (by show len p.num.natAbs < _; omega)
    rw [Z_ratOf] at s
    have s2 := trim1_tells (l := (ratOf p).2.2) (N_limbs _) (by show len p.den < _; omega)
    rw [V_ratOf] at s2
    refine Ev.bind s (Ev.bind s2 (Ev.congr (fun k => ?_) (Ev.now _)))
    unfold I ratOf
    rw [Rat.neg_num, Rat.neg_den]
  · rw [if_neg h]
    exact Ev.congr (fun k => if_neg h) (Ev.now _)
theorem sub7_tells {a b : R3} (ha : LB a) (hb : LB b) : Ev (fun k => steelyardref07_Sub.f k a.1 a.2.1 a.2.2 b.1 b.2.1 b.2.2) (subS a b) := by
  refine both7 ha hb (fun k x => steelyardref07_Sub.j0 k x a.1 a.2.1 a.2.2 b.1 b.2.1 b.2.2) (fun p q => lim (p - q)) ?_ ?_
  · exact Ev.step (f := fun _ => some (bad 1)) (fun k => by simp [steelyardref07_Sub.j0, bad]) (Ev.now _)
  · rintro p q hp hq rfl rfl
    have s := neg7_tells hb
    have e : negS (ratOf q) = ratOf (-q) := by unfold negS; rw [if_pos (good_ratOf hq), qOf_ratOf]
    rw [e] at s
    have s2 := plus7_tells hp (q := -q) (by rw [fits_neg]; exact hq)
    rw [← Rat.sub_eq_add_neg] at s2
    exact Ev.step (fun k => steelyardref07_Sub.j0.eq_2 _ _ _ _ _ _ _ k) (Ev.congr (fun k => if_neg (by simp)) (Ev.bind s (lim7 s2)))
theorem mul7_tells {a b : R3} (ha : LB a) (hb : LB b) : Ev (fun k => steelyardref07_Mul.f k a.1 a.2.1 a.2.2 b.1 b.2.1 b.2.2) (mulS a b) := by
  refine both7 ha hb (fun k x => steelyardref07_Mul.j0 k x a.1 a.2.1 a.2.2 b.1 b.2.1 b.2.2) (fun p q => lim (p * q)) ?_ ?_
  · exact Ev.step (f := fun _ => some (bad 1)) (fun k => by simp [steelyardref07_Mul.j0, bad]) (Ev.now _)
  · rintro p q hp hq rfl rfl
    obtain ⟨f3, f4⟩ := fits_len hq
    have s := times7_tells hp (ratOf q).1 (l2 := (ratOf q).2.1) (b2 := (ratOf q).2.2) (N_limbs _) (N_limbs _) f3 f4 (by rw [V_ratOf]; exact q.den_nz)
    rw [Z_ratOf, V_ratOf, ← Rat.mul_def'] at s
    exact Ev.step (fun k => steelyardref07_Mul.j0.eq_2 _ _ _ _ _ _ _ k) (Ev.congr (fun k => if_neg (by simp)) (lim7 s))
theorem div7_tells {a b : R3} (ha : LB a) (hb : LB b) : Ev (fun k => steelyardref07_Div.f k a.1 a.2.1 a.2.2 b.1 b.2.1 b.2.2) (divS a b) := by
  refine both7 ha hb (fun k x => steelyardref07_Div.j0 k x a.1 a.2.1 a.2.2 b.1 b.2.1 b.2.2) (fun p q => if q = 0 then bad 3 else lim (p / q)) ?_ ?_
  · exact Ev.step (f := fun _ => some (bad 1)) (fun k => by simp [steelyardref07_Div.j0, bad]) (Ev.now _)
  · rintro p q hp hq rfl rfl
    obtain ⟨f3, f4⟩ := fits_len hq
    refine Ev.step (fun k => steelyardref07_Div.j0.eq_2 _ _ _ _ _ _ _ k) (Ev.congr (fun k => if_neg (by simp)) ?_)
    have hlen : (ratOf q).2.1.length = len q.num.natAbs := rfl
    have h0 : len q.num.natAbs = 0 ↔ q.num.natAbs = 0 := len_eq_zero
    by_cases hz : q = 0
    · have hn : q.num = 0 := Rat.num_eq_zero.2 hz
      rw [if_pos hz]
      exact Ev.congr (fun k => if_pos (by rw [hlen]; omega)) (Ev.now _)
    · have hn : q.num ≠ 0 := fun h => hz (Rat.num_eq_zero.1 h)
      rw [if_neg hz]
      refine Ev.congr (fun k => if_neg (by rw [hlen]; omega)) ?_
      have s1 := make6_tells (ratOf q).1 (l := (ratOf q).2.2) (N_limbs _) (by show len q.den < _; omega)
      have e1 : Z (ratOf q).1 (ratOf q).2.2 = if q.num < 0 then -(q.den : Int) else (q.den : Int) := by
        unfold Z
        rw [V_ratOf, show (ratOf q).1 = decide (q.num < 0) from rfl]
        by_cases h : q.num < 0 <;> simp [h]
      rw [e1] at s1
      have s := times7_tells hp (I (if q.num < 0 then -(q.den : Int) else (q.den : Int))).1 (I_limbs (if q.num < 0 then -(q.den : Int) else (q.den : Int))) (b2 := (ratOf q).2.1) (N_limbs _) (by rw [I_len, show (if q.num < 0 then -(q.den : Int) else (q.den : Int)).natAbs = q.den from by split <;> omega]; exact f4) f3 (by show V (N q.num.natAbs) ≠ 0; rw [V_N]; omega)
      rw [Z_I, show V (ratOf q).2.1 = q.num.natAbs from V_N _] at s
      have e2 : mkRat (p.num * (if q.num < 0 then -(q.den : Int) else (q.den : Int))) (p.den * q.num.natAbs) = p / q := by
        rw [← div_mk p q hn]
        congr 1
        split
        · rw [Int.mul_neg]
        · rfl
      rw [e2] at s
      exact Ev.bind s1 (lim7 s)
theorem cmp7_tells {a b : R3} (ha : LB a) (hb : LB b) : Ev (fun k => steelyardref07_Cmp.f k a.1 a.2.1 a.2.2 b.1 b.2.1 b.2.2) (cmpS a b) := by
  refine Ev.bind (good7_tells ha) ?_
  unfold cmpS
  by_cases hg : goodB a = true
  · refine Ev.congr (fun k => if_pos hg) (Ev.bind (good7_tells hb) ?_)
    by_cases hh : goodB b = true
    · obtain ⟨p, hp, rfl⟩ := good_iff.1 hg
      obtain ⟨q, hq, rfl⟩ := good_iff.1 hh
      rw [hg, hh, Bool.true_and, if_pos rfl, qOf_ratOf, qOf_ratOf]
      exact Ev.congr (fun k => if_pos rfl) (Ev.bind (less7_tells hp hq) (Ev.now _))
    · rw [Bool.eq_false_iff.2 hh, Bool.and_false, if_neg (by simp)]
      exact Ev.congr (fun k => if_neg (by simp)) (Ev.now _)
  · rw [Bool.eq_false_iff.2 hg, Bool.false_and, if_neg (by simp)]
    exact Ev.congr (fun k => if_neg (by simp)) (Ev.now _)
theorem sign7_tells {a : R3} (ha : LB a) : Ev (fun k => steelyardref07_Sign.f k a.1 a.2.1 a.2.2) (signS a) := by
  have h0 : fits (0 : Rat) = true := by decide +kernel
  have s := cmp7_tells ha (LR_ratOf h0).wide
  have e : cmpS a (ratOf 0) = signS a := by
    unfold cmpS signS
    rw [good_ratOf h0, Bool.and_true, qOf_ratOf]
  rw [e] at s
  exact Ev.bind (whole7_tells 0 (by omega) (by omega)) (Ev.bind s (Ev.now _))
theorem ratOf_inj {p q : Rat} (h : ratOf p = ratOf q) : p = q := by rw [← qOf_ratOf p, h, qOf_ratOf]
theorem same7_tells {a b : R3} (ha : LB a) (hb : LB b) : Ev (fun k => steelyardref07_Same.f k a.1 a.2.1 a.2.2 b.1 b.2.1 b.2.2) (sameS a b) := by
  refine Ev.bind (good7_tells ha) ?_
  unfold sameS
  by_cases hg : goodB a = true
  · refine Ev.congr (fun k => if_pos hg) (Ev.bind (good7_tells hb) ?_)
    by_cases hh : goodB b = true
    · obtain ⟨p, hp, rfl⟩ := good_iff.1 hg
      obtain ⟨q, hq, rfl⟩ := good_iff.1 hh
      rw [hg, hh, Bool.true_and, Bool.true_and]
      have e : (cmpQ p q == 0) = decide (ratOf p = ratOf q) := by
        rcases cmpQ_cases p q with ⟨h, e⟩ | ⟨h, e⟩ | ⟨h, e⟩
        · rw [e, decide_eq_false (fun h2 => by have := ratOf_inj h2; grind)]; rfl
        · subst h; rw [e, decide_eq_true rfl]; rfl
        · rw [e, decide_eq_false (fun h2 => by have := ratOf_inj h2; grind)]; rfl
      rw [← e]
      exact Ev.congr (fun k => if_pos rfl) (Ev.bind (less7_tells hp hq) (Ev.now _))
    · rw [Bool.eq_false_iff.2 hh, Bool.false_and, Bool.and_false]
      exact Ev.congr (fun k => if_neg (by simp)) (Ev.now _)
  · rw [Bool.eq_false_iff.2 hg, Bool.false_and]
    exact Ev.congr (fun k => if_neg (by simp)) (Ev.now _)
end Go.Proofs.Yticngjjdjmadgaa.Num
end
section
set_option linter.unusedVariables false
set_option linter.unusedSimpArgs false
namespace Go.Proofs.Yticngjjdjmadgaa.Num
open Go.RowKit Go.Proofs.YticngjjdjmadgaaW.PrintWords Go.Proofs.YticngjjdjmadgaaW.PrintMore Go.Proofs.Yticngjjdjmadgaa.PL Go.Proofs.Yticngjjdjmadgaa.PU
open Go.Proofs.Yticngjjdjmadgaa.Den (U)

abbrev ug (a : R4) : U := .agg [.v (.bool a.1), .l a.2.1, .l a.2.2.1, .v (.int .i64 a.2.2.2)]
theorem add7_R {a b : R3} (ha : LB a) (hb : LB b) : steelyardref07_Add.R [ur a, ur b] (ug (addS a b)) := by obtain ⟨k, hk⟩ := (add7_tells ha hb).rounds; exact steelyardref07_Add.I (r1 := (addS a b).1) (r2 := (addS a b).2.1) (r3 := (addS a b).2.2.1) (r4 := (addS a b).2.2.2) hk
theorem sub7_R {a b : R3} (ha : LB a) (hb : LB b) : steelyardref07_Sub.R [ur a, ur b] (ug (subS a b)) := by obtain ⟨k, hk⟩ := (sub7_tells ha hb).rounds; exact steelyardref07_Sub.I (r1 := (subS a b).1) (r2 := (subS a b).2.1) (r3 := (subS a b).2.2.1) (r4 := (subS a b).2.2.2) hk
theorem mul7_R {a b : R3} (ha : LB a) (hb : LB b) : steelyardref07_Mul.R [ur a, ur b] (ug (mulS a b)) := by obtain ⟨k, hk⟩ := (mul7_tells ha hb).rounds; exact steelyardref07_Mul.I (r1 := (mulS a b).1) (r2 := (mulS a b).2.1) (r3 := (mulS a b).2.2.1) (r4 := (mulS a b).2.2.2) hk
theorem div7_R {a b : R3} (ha : LB a) (hb : LB b) : steelyardref07_Div.R [ur a, ur b] (ug (divS a b)) := by obtain ⟨k, hk⟩ := (div7_tells ha hb).rounds; exact steelyardref07_Div.I (r1 := (divS a b).1) (r2 := (divS a b).2.1) (r3 := (divS a b).2.2.1) (r4 := (divS a b).2.2.2) hk
theorem cmp7_R {a b : R3} (ha : LB a) (hb : LB b) : steelyardref07_Cmp.R [ur a, ur b] (ui (cmpS a b)) := by obtain ⟨k, hk⟩ := (cmp7_tells ha hb).rounds; exact steelyardref07_Cmp.I hk
theorem sign7_R {a : R3} (ha : LB a) : steelyardref07_Sign.R [ur a] (ui (signS a)) := by obtain ⟨k, hk⟩ := (sign7_tells ha).rounds; exact steelyardref07_Sign.I hk
theorem neg7_R {a : R3} (ha : LB a) : steelyardref07_Neg.R [ur a] (ur (negS a)) := by obtain ⟨k, hk⟩ := (neg7_tells ha).rounds; exact steelyardref07_Neg.I (r1 := (negS a).1) (r2 := (negS a).2.1) (r3 := (negS a).2.2) hk
theorem same7_R {a b : R3} (ha : LB a) (hb : LB b) : steelyardref07_Same.R [ur a, ur b] (ub (sameS a b)) := by obtain ⟨k, hk⟩ := (same7_tells ha hb).rounds; exact steelyardref07_Same.I hk
theorem whole7_R (v : Int) (h0 : -9223372036854775808 ≤ v) (h1 : v ≤ 9223372036854775807) : steelyardref07_Whole.R [ui v] (ur (ratOf v)) := by obtain ⟨k, hk⟩ := (whole7_tells v h0 h1).rounds; exact steelyardref07_Whole.I (r1 := (ratOf (v : Rat)).1) (r2 := (ratOf (v : Rat)).2.1) (r3 := (ratOf (v : Rat)).2.2) hk
theorem own_R {a : R3} (ha : LR a) : steelyardkeep_OwnRat.R [ur a] (ur a) := steelyardkeep_OwnRat.I (r1 := a.1) (r2 := a.2.1) (r3 := a.2.2) (own_tells a (by have := ha.lt; omega) (by have := ha.lb; omega))
def longB (a : R3) : Bool := decide (70 < a.2.1.length) || decide (70 < a.2.2.length)
theorem long_R (a : R3) : steelyardlaw07_Long.R [ur a] (ub (longB a)) := by
  refine steelyardlaw07_Long.I ?_
  unfold steelyardlaw07_Long.f longB
  by_cases h1 : 70 < a.2.1.length
  · rw [if_pos (by omega), decide_eq_true h1, Bool.true_or]
  · rw [if_neg (by omega), decide_eq_false h1, Bool.false_or]
    by_cases h2 : 70 < a.2.2.length
    · rw [if_pos (by omega), decide_eq_true h2]
    · rw [if_neg (by omega), decide_eq_false h2]
theorem lim_bound (q : Rat) : LR ((lim q).1, (lim q).2.1, (lim q).2.2.1) := by
  unfold lim
  split
  · rename_i h; exact LR_ratOf h
  · exact ⟨Limbs.nil, Limbs.nil, by show 0 < _; omega, by show 0 < _; omega⟩
theorem bad_bound (e : Int) : LR ((bad e).1, (bad e).2.1, (bad e).2.2.1) := ⟨Limbs.nil, Limbs.nil, by show 0 < _; omega, by show 0 < _; omega⟩
theorem addS_LR (a b : R3) : LR ((addS a b).1, (addS a b).2.1, (addS a b).2.2.1) := by unfold addS; split; exact lim_bound _; exact bad_bound _
theorem subS_LR (a b : R3) : LR ((subS a b).1, (subS a b).2.1, (subS a b).2.2.1) := by unfold subS; split; exact lim_bound _; exact bad_bound _
theorem mulS_LR (a b : R3) : LR ((mulS a b).1, (mulS a b).2.1, (mulS a b).2.2.1) := by unfold mulS; split; exact lim_bound _; exact bad_bound _
theorem divS_LR (a b : R3) : LR ((divS a b).1, (divS a b).2.1, (divS a b).2.2.1) := by
  unfold divS
  split
  · split
    · exact bad_bound _
    · exact lim_bound _
  · exact bad_bound _
end Go.Proofs.Yticngjjdjmadgaa.Num
end
section
set_option linter.unusedVariables false
set_option linter.unusedSimpArgs false
namespace Go.Proofs.Yticngjjdjmadgaa.PU
open Go Go.RowKit Go.Proofs.YticngjjdjmadgaaW.PrintWords Go.Proofs.YticngjjdjmadgaaW.PrintMore Go.Proofs.Yticngjjdjmadgaa.Den Go.Proofs.Yticngjjdjmadgaa.PL
set_option maxHeartbeats 4000000 in
set_option maxRecDepth 100000 in
theorem steelyardlaw07_RatTells.walk {D : Dat} {C : Orc} (hD : D = real) (h14 : ∀ us u, steelyardlaw07_Long.R us u → C 14 us u) (h16 : ∀ us u, steelyardkeep_OwnRat.R us u → C 16 us u) (h21 : ∀ us u, steelyardkeep_Rat.R us u → C 21 us u) (h22 : ∀ us u, steelyardref07_Good.R us u → C 22 us u) (h23 : ∀ us u, steelyardlaw07_wakes.R us u → C 23 us u) (h28 : ∀ us u, rat_Good.R us u → C 28 us u) (h29 : ∀ us u, rat_Add.R us u → C 29 us u) (h30 : ∀ us u, rat_Div.R us u → C 30 us u) (h31 : ∀ us u, rat_Whole.R us u → C 31 us u) (h32 : ∀ us u, rat_Cmp.R us u → C 32 us u) (h34 : ∀ us u, rat_Sub.R us u → C 34 us u) (h35 : ∀ us u, rat_Mul.R us u → C 35 us u) (h36 : ∀ us u, steelyardref07_Add.R us u → C 36 us u) (h37 : ∀ us u, steelyardref07_Sub.R us u → C 37 us u) (h38 : ∀ us u, steelyardref07_Mul.R us u → C 38 us u) (h39 : ∀ us u, steelyardref07_Div.R us u → C 39 us u) (h40 : ∀ us u, steelyardref07_Cmp.R us u → C 40 us u) (h41 : ∀ us u, rat_Sign.R us u → C 41 us u) (h42 : ∀ us u, steelyardref07_Sign.R us u → C 42 us u) (h43 : ∀ us u, rat_Neg.R us u → C 43 us u) (h44 : ∀ us u, steelyardref07_Neg.R us u → C 44 us u) (h45 : ∀ us u, rat_Same.R us u → C 45 us u) (h46 : ∀ us u, steelyardref07_Same.R us u → C 46 us u) (h47 : ∀ us u, steelyardref07_Whole.R us u → C 47 us u) {g sm : Bool} {x sg v e1 e2 e3 e4 : Int} {n1 : Bool} {l1 b1 : List Int} {n2 : Bool} {l2 b2 : List Int} {n3 : Bool} {l3 b3 : List Int} {n4 : Bool} {l4 b4 : List Int} {n5 : Bool} {l5 b5 : List Int} {n6 : Bool} {l6 b6 : List Int} {n7 : Bool} {l7 b7 : List Int} {n8 : Bool} {l8 b8 : List Int} (H : (steelyardlaw07_wakes.R [] (.v (.bool true)) ∧ steelyardlaw07_Long.R [.agg [.v (.bool n1), .l l1, .l b1]] (.v (.bool true))) ∨ (steelyardlaw07_wakes.R [] (.v (.bool true)) ∧ steelyardlaw07_Long.R [.agg [.v (.bool n1), .l l1, .l b1]] (.v (.bool false)) ∧ steelyardlaw07_Long.R [.agg [.v (.bool n2), .l l2, .l b2]] (.v (.bool true))) ∨ (steelyardlaw07_wakes.R [] (.v (.bool true)) ∧ steelyardlaw07_Long.R [.agg [.v (.bool n1), .l l1, .l b1]] (.v (.bool false)) ∧ steelyardlaw07_Long.R [.agg [.v (.bool n2), .l l2, .l b2]] (.v (.bool false)) ∧ steelyardkeep_OwnRat.R [.agg [.v (.bool n1), .l l1, .l b1]] (.agg [.v (.bool n1), .l l1, .l b1]) ∧ steelyardkeep_OwnRat.R [.agg [.v (.bool n2), .l l2, .l b2]] (.agg [.v (.bool n2), .l l2, .l b2]) ∧ rat_Add.R [.agg [.v (.bool n1), .l l1, .l b1], .agg [.v (.bool n2), .l l2, .l b2]] (.tup [.agg [.v (.bool n3), .l l3, .l b3], .v (.int .i64 e1)]) ∧ steelyardref07_Add.R [.agg [.v (.bool n1), .l l1, .l b1], .agg [.v (.bool n2), .l l2, .l b2]] (.agg [.v (.bool n3), .l l3, .l b3, .v (.int .i64 e1)]) ∧ steelyardkeep_Rat.R [.agg [.v (.bool n3), .l l3, .l b3], .agg [.v (.bool n3), .l l3, .l b3]] (.v (.bool true)) ∧ rat_Sub.R [.agg [.v (.bool n1), .l l1, .l b1], .agg [.v (.bool n2), .l l2, .l b2]] (.tup [.agg [.v (.bool n4), .l l4, .l b4], .v (.int .i64 e2)]) ∧ steelyardref07_Sub.R [.agg [.v (.bool n1), .l l1, .l b1], .agg [.v (.bool n2), .l l2, .l b2]] (.agg [.v (.bool n4), .l l4, .l b4, .v (.int .i64 e2)]) ∧ steelyardkeep_Rat.R [.agg [.v (.bool n4), .l l4, .l b4], .agg [.v (.bool n4), .l l4, .l b4]] (.v (.bool true)) ∧ rat_Mul.R [.agg [.v (.bool n1), .l l1, .l b1], .agg [.v (.bool n2), .l l2, .l b2]] (.tup [.agg [.v (.bool n5), .l l5, .l b5], .v (.int .i64 e3)]) ∧ steelyardref07_Mul.R [.agg [.v (.bool n1), .l l1, .l b1], .agg [.v (.bool n2), .l l2, .l b2]] (.agg [.v (.bool n5), .l l5, .l b5, .v (.int .i64 e3)]) ∧ steelyardkeep_Rat.R [.agg [.v (.bool n5), .l l5, .l b5], .agg [.v (.bool n5), .l l5, .l b5]] (.v (.bool true)) ∧ rat_Div.R [.agg [.v (.bool n1), .l l1, .l b1], .agg [.v (.bool n2), .l l2, .l b2]] (.tup [.agg [.v (.bool n6), .l l6, .l b6], .v (.int .i64 e4)]) ∧ steelyardref07_Div.R [.agg [.v (.bool n1), .l l1, .l b1], .agg [.v (.bool n2), .l l2, .l b2]] (.agg [.v (.bool n6), .l l6, .l b6, .v (.int .i64 e4)]) ∧ steelyardkeep_Rat.R [.agg [.v (.bool n6), .l l6, .l b6], .agg [.v (.bool n6), .l l6, .l b6]] (.v (.bool true)) ∧ rat_Good.R [.agg [.v (.bool n1), .l l1, .l b1]] (.v (.bool g)) ∧ steelyardref07_Good.R [.agg [.v (.bool n1), .l l1, .l b1]] (.v (.bool g)) ∧ rat_Cmp.R [.agg [.v (.bool n1), .l l1, .l b1], .agg [.v (.bool n2), .l l2, .l b2]] (.v (.int .i64 x)) ∧ steelyardref07_Cmp.R [.agg [.v (.bool n1), .l l1, .l b1], .agg [.v (.bool n2), .l l2, .l b2]] (.v (.int .i64 x)) ∧ rat_Same.R [.agg [.v (.bool n1), .l l1, .l b1], .agg [.v (.bool n2), .l l2, .l b2]] (.v (.bool sm)) ∧ steelyardref07_Same.R [.agg [.v (.bool n1), .l l1, .l b1], .agg [.v (.bool n2), .l l2, .l b2]] (.v (.bool sm)) ∧ rat_Sign.R [.agg [.v (.bool n1), .l l1, .l b1]] (.v (.int .i64 sg)) ∧ steelyardref07_Sign.R [.agg [.v (.bool n1), .l l1, .l b1]] (.v (.int .i64 sg)) ∧ rat_Neg.R [.agg [.v (.bool n1), .l l1, .l b1]] (.agg [.v (.bool n7), .l l7, .l b7]) ∧ steelyardref07_Neg.R [.agg [.v (.bool n1), .l l1, .l b1]] (.agg [.v (.bool n7), .l l7, .l b7]) ∧ steelyardkeep_Rat.R [.agg [.v (.bool n7), .l l7, .l b7], .agg [.v (.bool n7), .l l7, .l b7]] (.v (.bool true)) ∧ rat_Whole.R [.v (.int .i64 v)] (.agg [.v (.bool n8), .l l8, .l b8]) ∧ steelyardref07_Whole.R [.v (.int .i64 v)] (.agg [.v (.bool n8), .l l8, .l b8]) ∧ steelyardkeep_Rat.R [.agg [.v (.bool n8), .l l8, .l b8], .agg [.v (.bool n8), .l l8, .l b8]] (.v (.bool true)) ∧ steelyardkeep_Rat.R [.agg [.v (.bool n1), .l l1, .l b1], .agg [.v (.bool n1), .l l1, .l b1]] (.v (.bool true)) ∧ steelyardkeep_Rat.R [.agg [.v (.bool n2), .l l2, .l b2], .agg [.v (.bool n2), .l l2, .l b2]] (.v (.bool true)))) : body tys D C Try.f8 [.agg [.v (.bool n1), .l l1, .l b1], .agg [.v (.bool n2), .l l2, .l b2], .v (.int .i64 v)] (.v (.bool true)) := by
  obtain ⟨len, add, sub, mul, rem, neg, conv, max, eq, ne, lt, le, nth, zeros, copy, cpd, bor⟩ := D
  simp only [real, Dat.mk.injEq] at hD
  obtain ⟨elen, eadd, esub, emul, erem, eneg, econv, emax, eeq, ene, elt, ele, enth, ezeros, ecopy, ecpd, ebor⟩ := hD
  (rcases H with ⟨q0, q1⟩ | ⟨q0, q1, q2⟩ | ⟨q0, q1, q2, q3, q4, q5, q6, q7, q8, q9, q10, q11, q12, q13, q14, q15, q16, q17, q18, q19, q20, q21, q22, q23, q24, q25, q26, q27, q28, q29, q30, q31, q32⟩) <;>
  (cbv) <;>
  (repeat first
    | ((with_reducible refine Exists.intro _ (And.intro (h14 _ _ (by assumption)) ?_)); cbv)
    | ((with_reducible refine Exists.intro _ (And.intro (h16 _ _ (by assumption)) ?_)); cbv)
    | ((with_reducible refine Exists.intro _ (And.intro (h21 _ _ (by assumption)) ?_)); cbv)
    | ((with_reducible refine Exists.intro _ (And.intro (h22 _ _ (by assumption)) ?_)); cbv)
    | ((with_reducible refine Exists.intro _ (And.intro (h23 _ _ (by assumption)) ?_)); cbv)
    | ((with_reducible refine Exists.intro _ (And.intro (h28 _ _ (by assumption)) ?_)); cbv)
    | ((with_reducible refine Exists.intro _ (And.intro (h29 _ _ (by assumption)) ?_)); cbv)
    | ((with_reducible refine Exists.intro _ (And.intro (h30 _ _ (by assumption)) ?_)); cbv)
    | ((with_reducible refine Exists.intro _ (And.intro (h31 _ _ (by assumption)) ?_)); cbv)
    | ((with_reducible refine Exists.intro _ (And.intro (h32 _ _ (by assumption)) ?_)); cbv)
    | ((with_reducible refine Exists.intro _ (And.intro (h34 _ _ (by assumption)) ?_)); cbv)
    | ((with_reducible refine Exists.intro _ (And.intro (h35 _ _ (by assumption)) ?_)); cbv)
    | ((with_reducible refine Exists.intro _ (And.intro (h36 _ _ (by assumption)) ?_)); cbv)
    | ((with_reducible refine Exists.intro _ (And.intro (h37 _ _ (by assumption)) ?_)); cbv)
    | ((with_reducible refine Exists.intro _ (And.intro (h38 _ _ (by assumption)) ?_)); cbv)
    | ((with_reducible refine Exists.intro _ (And.intro (h39 _ _ (by assumption)) ?_)); cbv)
    | ((with_reducible refine Exists.intro _ (And.intro (h40 _ _ (by assumption)) ?_)); cbv)
    | ((with_reducible refine Exists.intro _ (And.intro (h41 _ _ (by assumption)) ?_)); cbv)
    | ((with_reducible refine Exists.intro _ (And.intro (h42 _ _ (by assumption)) ?_)); cbv)
    | ((with_reducible refine Exists.intro _ (And.intro (h43 _ _ (by assumption)) ?_)); cbv)
    | ((with_reducible refine Exists.intro _ (And.intro (h44 _ _ (by assumption)) ?_)); cbv)
    | ((with_reducible refine Exists.intro _ (And.intro (h45 _ _ (by assumption)) ?_)); cbv)
    | ((with_reducible refine Exists.intro _ (And.intro (h46 _ _ (by assumption)) ?_)); cbv)
    | ((with_reducible refine Exists.intro _ (And.intro (h47 _ _ (by assumption)) ?_)); cbv)
    | ((with_reducible apply Exists.intro); (with_reducible apply And.intro); (· with_reducible apply h14; simp only [elen, eadd, esub, emul, erem, eneg, econv, ebor, emax, eeq, ene, elt, ele, w64, mxE]; assumption); cbv)
    | ((with_reducible apply Exists.intro); (with_reducible apply And.intro); (· with_reducible apply h16; simp only [elen, eadd, esub, emul, erem, eneg, econv, ebor, emax, eeq, ene, elt, ele, w64, mxE]; assumption); cbv)
    | ((with_reducible apply Exists.intro); (with_reducible apply And.intro); (· with_reducible apply h21; simp only [elen, eadd, esub, emul, erem, eneg, econv, ebor, emax, eeq, ene, elt, ele, w64, mxE]; assumption); cbv)
    | ((with_reducible apply Exists.intro); (with_reducible apply And.intro); (· with_reducible apply h22; simp only [elen, eadd, esub, emul, erem, eneg, econv, ebor, emax, eeq, ene, elt, ele, w64, mxE]; assumption); cbv)
    | ((with_reducible apply Exists.intro); (with_reducible apply And.intro); (· with_reducible apply h23; simp only [elen, eadd, esub, emul, erem, eneg, econv, ebor, emax, eeq, ene, elt, ele, w64, mxE]; assumption); cbv)
    | ((with_reducible apply Exists.intro); (with_reducible apply And.intro); (· with_reducible apply h28; simp only [elen, eadd, esub, emul, erem, eneg, econv, ebor, emax, eeq, ene, elt, ele, w64, mxE]; assumption); cbv)
    | ((with_reducible apply Exists.intro); (with_reducible apply And.intro); (· with_reducible apply h29; simp only [elen, eadd, esub, emul, erem, eneg, econv, ebor, emax, eeq, ene, elt, ele, w64, mxE]; assumption); cbv)
    | ((with_reducible apply Exists.intro); (with_reducible apply And.intro); (· with_reducible apply h30; simp only [elen, eadd, esub, emul, erem, eneg, econv, ebor, emax, eeq, ene, elt, ele, w64, mxE]; assumption); cbv)
    | ((with_reducible apply Exists.intro); (with_reducible apply And.intro); (· with_reducible apply h31; simp only [elen, eadd, esub, emul, erem, eneg, econv, ebor, emax, eeq, ene, elt, ele, w64, mxE]; assumption); cbv)
    | ((with_reducible apply Exists.intro); (with_reducible apply And.intro); (· with_reducible apply h32; simp only [elen, eadd, esub, emul, erem, eneg, econv, ebor, emax, eeq, ene, elt, ele, w64, mxE]; assumption); cbv)
    | ((with_reducible apply Exists.intro); (with_reducible apply And.intro); (· with_reducible apply h34; simp only [elen, eadd, esub, emul, erem, eneg, econv, ebor, emax, eeq, ene, elt, ele, w64, mxE]; assumption); cbv)
    | ((with_reducible apply Exists.intro); (with_reducible apply And.intro); (· with_reducible apply h35; simp only [elen, eadd, esub, emul, erem, eneg, econv, ebor, emax, eeq, ene, elt, ele, w64, mxE]; assumption); cbv)
    | ((with_reducible apply Exists.intro); (with_reducible apply And.intro); (· with_reducible apply h36; simp only [elen, eadd, esub, emul, erem, eneg, econv, ebor, emax, eeq, ene, elt, ele, w64, mxE]; assumption); cbv)
    | ((with_reducible apply Exists.intro); (with_reducible apply And.intro); (· with_reducible apply h37; simp only [elen, eadd, esub, emul, erem, eneg, econv, ebor, emax, eeq, ene, elt, ele, w64, mxE]; assumption); cbv)
    | ((with_reducible apply Exists.intro); (with_reducible apply And.intro); (· with_reducible apply h38; simp only [elen, eadd, esub, emul, erem, eneg, econv, ebor, emax, eeq, ene, elt, ele, w64, mxE]; assumption); cbv)
    | ((with_reducible apply Exists.intro); (with_reducible apply And.intro); (· with_reducible apply h39; simp only [elen, eadd, esub, emul, erem, eneg, econv, ebor, emax, eeq, ene, elt, ele, w64, mxE]; assumption); cbv)
    | ((with_reducible apply Exists.intro); (with_reducible apply And.intro); (· with_reducible apply h40; simp only [elen, eadd, esub, emul, erem, eneg, econv, ebor, emax, eeq, ene, elt, ele, w64, mxE]; assumption); cbv)
    | ((with_reducible apply Exists.intro); (with_reducible apply And.intro); (· with_reducible apply h41; simp only [elen, eadd, esub, emul, erem, eneg, econv, ebor, emax, eeq, ene, elt, ele, w64, mxE]; assumption); cbv)
    | ((with_reducible apply Exists.intro); (with_reducible apply And.intro); (· with_reducible apply h42; simp only [elen, eadd, esub, emul, erem, eneg, econv, ebor, emax, eeq, ene, elt, ele, w64, mxE]; assumption); cbv)
    | ((with_reducible apply Exists.intro); (with_reducible apply And.intro); (· with_reducible apply h43; simp only [elen, eadd, esub, emul, erem, eneg, econv, ebor, emax, eeq, ene, elt, ele, w64, mxE]; assumption); cbv)
    | ((with_reducible apply Exists.intro); (with_reducible apply And.intro); (· with_reducible apply h44; simp only [elen, eadd, esub, emul, erem, eneg, econv, ebor, emax, eeq, ene, elt, ele, w64, mxE]; assumption); cbv)
    | ((with_reducible apply Exists.intro); (with_reducible apply And.intro); (· with_reducible apply h45; simp only [elen, eadd, esub, emul, erem, eneg, econv, ebor, emax, eeq, ene, elt, ele, w64, mxE]; assumption); cbv)
    | ((with_reducible apply Exists.intro); (with_reducible apply And.intro); (· with_reducible apply h46; simp only [elen, eadd, esub, emul, erem, eneg, econv, ebor, emax, eeq, ene, elt, ele, w64, mxE]; assumption); cbv)
    | ((with_reducible apply Exists.intro); (with_reducible apply And.intro); (· with_reducible apply h47; simp only [elen, eadd, esub, emul, erem, eneg, econv, ebor, emax, eeq, ene, elt, ele, w64, mxE]; assumption); cbv)
    | ((with_reducible refine t1 ?_ ?_); (· first | (simp only [elen, eadd, esub, emul, erem, eneg, econv, ebor, emax, eeq, ene, elt, ele, w64, mxE, decide_eq_true_eq, decide_eq_false_iff_not, not_true_eq_false, not_false_eq_true]; done) | (simp only [elen, eadd, esub, emul, erem, eneg, econv, ebor, emax, eeq, ene, elt, ele, w64, mxE, decide_eq_true_eq, decide_eq_false_iff_not]; first | assumption | omega | decide)); intro hb_; (try simp only [hb_]); cbv)
    | ((with_reducible refine t2 ?_ ?_); (· first | (simp only [elen, eadd, esub, emul, erem, eneg, econv, ebor, emax, eeq, ene, elt, ele, w64, mxE, decide_eq_true_eq, decide_eq_false_iff_not, not_true_eq_false, not_false_eq_true]; done) | (simp only [elen, eadd, esub, emul, erem, eneg, econv, ebor, emax, eeq, ene, elt, ele, w64, mxE, decide_eq_true_eq, decide_eq_false_iff_not]; first | assumption | omega | decide)); intro hb_; (try simp only [hb_]); cbv)
    | ((with_reducible refine t3 ?_ ?_); (· first | (simp only [elen, eadd, esub, emul, erem, eneg, econv, ebor, emax, eeq, ene, elt, ele, w64, mxE, decide_eq_true_eq, decide_eq_false_iff_not, not_true_eq_false, not_false_eq_true]; done) | (simp only [elen, eadd, esub, emul, erem, eneg, econv, ebor, emax, eeq, ene, elt, ele, w64, mxE, decide_eq_true_eq, decide_eq_false_iff_not]; first | assumption | omega | decide)); intro hb_; (try simp only [hb_]); cbv)
    | ((with_reducible refine t4 ?_ ?_); (· first | (simp only [elen, eadd, esub, emul, erem, eneg, econv, ebor, emax, eeq, ene, elt, ele, w64, mxE, decide_eq_true_eq, decide_eq_false_iff_not, not_true_eq_false, not_false_eq_true]; done) | (simp only [elen, eadd, esub, emul, erem, eneg, econv, ebor, emax, eeq, ene, elt, ele, w64, mxE, decide_eq_true_eq, decide_eq_false_iff_not]; first | assumption | omega | decide)); intro hb_; (try simp only [hb_]); cbv))
end Go.Proofs.Yticngjjdjmadgaa.PU
end
section
set_option linter.unusedVariables false
set_option linter.unusedSimpArgs false
namespace Go.Proofs.Yticngjjdjmadgaa.Num
open Go.RowKit Go.Proofs.YticngjjdjmadgaaW.PrintWords Go.Proofs.YticngjjdjmadgaaW.PrintMore Go.Proofs.Yticngjjdjmadgaa.PL Go.Proofs.Yticngjjdjmadgaa.PU
open Go.Proofs.Yticngjjdjmadgaa.Den (U SoundF orc_cons orc_nil)

def RatTellsT (us : List U) (u : U) : Prop := ∃ (a b : R3) (v : Int), LB a ∧ LB b ∧ -9223372036854775808 ≤ v ∧ v ≤ 9223372036854775807 ∧ us = [ur a, ur b, ui v] ∧ u = ub true
theorem rtells_sound : SoundF Try.prog 8 RatTellsT :=
  Den.sound (l := [(14, steelyardlaw07_Long.R), (16, steelyardkeep_OwnRat.R), (21, steelyardkeep_Rat.R), (22, steelyardref07_Good.R), (23, steelyardlaw07_wakes.R), (28, rat_Good.R), (29, rat_Add.R), (30, rat_Div.R), (31, rat_Whole.R), (32, rat_Cmp.R), (34, rat_Sub.R), (35, rat_Mul.R), (36, steelyardref07_Add.R), (37, steelyardref07_Sub.R), (38, steelyardref07_Mul.R), (39, steelyardref07_Div.R), (40, steelyardref07_Cmp.R), (41, rat_Sign.R), (42, steelyardref07_Sign.R), (43, rat_Neg.R), (44, steelyardref07_Neg.R), (45, rat_Same.R), (46, steelyardref07_Same.R), (47, steelyardref07_Whole.R)])
    (orc_cons steelyardlaw07_Long.sound (orc_cons steelyardkeep_OwnRat.sound (orc_cons steelyardkeep_Rat.sound (orc_cons steelyardref07_Good.sound (orc_cons steelyardlaw07_wakes.sound (orc_cons rat_Good.sound (orc_cons rat_Add.sound (orc_cons rat_Div.sound (orc_cons rat_Whole.sound (orc_cons rat_Cmp.sound (orc_cons rat_Sub.sound (orc_cons rat_Mul.sound (orc_cons steelyardref07_Add.sound (orc_cons steelyardref07_Sub.sound (orc_cons steelyardref07_Mul.sound (orc_cons steelyardref07_Div.sound (orc_cons steelyardref07_Cmp.sound (orc_cons rat_Sign.sound (orc_cons steelyardref07_Sign.sound (orc_cons rat_Neg.sound (orc_cons steelyardref07_Neg.sound (orc_cons rat_Same.sound (orc_cons steelyardref07_Same.sound (orc_cons steelyardref07_Whole.sound orc_nil))))))))))))))))))))))))
    Try.func8 (by kernel_rfl) (by kernel_rfl) (by decide +kernel) fun us u hR => by
  obtain ⟨a, b, v, ha, hb, v0, v1, rfl, rfl⟩ := hR
  have w1 := long_R a
  have w2 := long_R b
  by_cases g1 : longB a = true
  · rw [g1] at w1
    exact steelyardlaw07_RatTells.walk rfl (fun _ _ h => .inl ⟨rfl, h⟩) (fun _ _ h => .inr (.inl ⟨rfl, h⟩)) (fun _ _ h => .inr (.inr (.inl ⟨rfl, h⟩))) (fun _ _ h => .inr (.inr (.inr (.inl ⟨rfl, h⟩)))) (fun _ _ h => .inr (.inr (.inr (.inr (.inl ⟨rfl, h⟩))))) (fun _ _ h => .inr (.inr (.inr (.inr (.inr (.inl ⟨rfl, h⟩)))))) (fun _ _ h => .inr (.inr (.inr (.inr (.inr (.inr (.inl ⟨rfl, h⟩))))))) (fun _ _ h => .inr (.inr (.inr (.inr (.inr (.inr (.inr (.inl ⟨rfl, h⟩)))))))) (fun _ _ h => .inr (.inr (.inr (.inr (.inr (.inr (.inr (.inr (.inl ⟨rfl, h⟩))))))))) (fun _ _ h => .inr (.inr (.inr (.inr (.inr (.inr (.inr (.inr (.inr (.inl ⟨rfl, h⟩)))))))))) (fun _ _ h => .inr (.inr (.inr (.inr (.inr (.inr (.inr (.inr (.inr (.inr (.inl ⟨rfl, h⟩))))))))))) (fun _ _ h => .inr (.inr (.inr (.inr (.inr (.inr (.inr (.inr (.inr (.inr (.inr (.inl ⟨rfl, h⟩)))))))))))) (fun _ _ h => .inr (.inr (.inr (.inr (.inr (.inr (.inr (.inr (.inr (.inr (.inr (.inr (.inl ⟨rfl, h⟩))))))))))))) (fun _ _ h => .inr (.inr (.inr (.inr (.inr (.inr (.inr (.inr (.inr (.inr (.inr (.inr (.inr (.inl ⟨rfl, h⟩)))))))))))))) (fun _ _ h => .inr (.inr (.inr (.inr (.inr (.inr (.inr (.inr (.inr (.inr (.inr (.inr (.inr (.inr (.inl ⟨rfl, h⟩))))))))))))))) (fun _ _ h => .inr (.inr (.inr (.inr (.inr (.inr (.inr (.inr (.inr (.inr (.inr (.inr (.inr (.inr (.inr (.inl ⟨rfl, h⟩)))))))))))))))) (fun _ _ h => .inr (.inr (.inr (.inr (.inr (.inr (.inr (.inr (.inr (.inr (.inr (.inr (.inr (.inr (.inr (.inr (.inl ⟨rfl, h⟩))))))))))))))))) (fun _ _ h => .inr (.inr (.inr (.inr (.inr (.inr (.inr (.inr (.inr (.inr (.inr (.inr (.inr (.inr (.inr (.inr (.inr (.inl ⟨rfl, h⟩)))))))))))))))))) (fun _ _ h => .inr (.inr (.inr (.inr (.inr (.inr (.inr (.inr (.inr (.inr (.inr (.inr (.inr (.inr (.inr (.inr (.inr (.inr (.inl ⟨rfl, h⟩))))))))))))))))))) (fun _ _ h => .inr (.inr (.inr (.inr (.inr (.inr (.inr (.inr (.inr (.inr (.inr (.inr (.inr (.inr (.inr (.inr (.inr (.inr (.inr (.inl ⟨rfl, h⟩)))))))))))))))))))) (fun _ _ h => .inr (.inr (.inr (.inr (.inr (.inr (.inr (.inr (.inr (.inr (.inr (.inr (.inr (.inr (.inr (.inr (.inr (.inr (.inr (.inr (.inl ⟨rfl, h⟩))))))))))))))))))))) (fun _ _ h => .inr (.inr (.inr (.inr (.inr (.inr (.inr (.inr (.inr (.inr (.inr (.inr (.inr (.inr (.inr (.inr (.inr (.inr (.inr (.inr (.inr (.inl ⟨rfl, h⟩)))))))))))))))))))))) (fun _ _ h => .inr (.inr (.inr (.inr (.inr (.inr (.inr (.inr (.inr (.inr (.inr (.inr (.inr (.inr (.inr (.inr (.inr (.inr (.inr (.inr (.inr (.inr (.inl ⟨rfl, h⟩))))))))))))))))))))))) (fun _ _ h => .inr (.inr (.inr (.inr (.inr (.inr (.inr (.inr (.inr (.inr (.inr (.inr (.inr (.inr (.inr (.inr (.inr (.inr (.inr (.inr (.inr (.inr (.inr (.inl ⟨rfl, h⟩)))))))))))))))))))))))) (g := true) (sm := true) (x := 0) (sg := 0) (e1 := 0) (e2 := 0) (e3 := 0) (e4 := 0) (n3 := true) (l3 := []) (b3 := []) (n4 := true) (l4 := []) (b4 := []) (n5 := true) (l5 := []) (b5 := []) (n6 := true) (l6 := []) (b6 := []) (n7 := true) (l7 := []) (b7 := []) (n8 := true) (l8 := []) (b8 := []) (.inl ⟨wakes7_R, w1⟩)
  rw [Bool.eq_false_iff.2 g1] at w1
  by_cases g2 : longB b = true
  · rw [g2] at w2
    exact steelyardlaw07_RatTells.walk rfl (fun _ _ h => .inl ⟨rfl, h⟩) (fun _ _ h => .inr (.inl ⟨rfl, h⟩)) (fun _ _ h => .inr (.inr (.inl ⟨rfl, h⟩))) (fun _ _ h => .inr (.inr (.inr (.inl ⟨rfl, h⟩)))) (fun _ _ h => .inr (.inr (.inr (.inr (.inl ⟨rfl, h⟩))))) (fun _ _ h => .inr (.inr (.inr (.inr (.inr (.inl ⟨rfl, h⟩)))))) (fun _ _ h => .inr (.inr (.inr (.inr (.inr (.inr (.inl ⟨rfl, h⟩))))))) (fun _ _ h => .inr (.inr (.inr (.inr (.inr (.inr (.inr (.inl ⟨rfl, h⟩)))))))) (fun _ _ h => .inr (.inr (.inr (.inr (.inr (.inr (.inr (.inr (.inl ⟨rfl, h⟩))))))))) (fun _ _ h => .inr (.inr (.inr (.inr (.inr (.inr (.inr (.inr (.inr (.inl ⟨rfl, h⟩)))))))))) (fun _ _ h => .inr (.inr (.inr (.inr (.inr (.inr (.inr (.inr (.inr (.inr (.inl ⟨rfl, h⟩))))))))))) (fun _ _ h => .inr (.inr (.inr (.inr (.inr (.inr (.inr (.inr (.inr (.inr (.inr (.inl ⟨rfl, h⟩)))))))))))) (fun _ _ h => .inr (.inr (.inr (.inr (.inr (.inr (.inr (.inr (.inr (.inr (.inr (.inr (.inl ⟨rfl, h⟩))))))))))))) (fun _ _ h => .inr (.inr (.inr (.inr (.inr (.inr (.inr (.inr (.inr (.inr (.inr (.inr (.inr (.inl ⟨rfl, h⟩)))))))))))))) (fun _ _ h => .inr (.inr (.inr (.inr (.inr (.inr (.inr (.inr (.inr (.inr (.inr (.inr (.inr (.inr (.inl ⟨rfl, h⟩))))))))))))))) (fun _ _ h => .inr (.inr (.inr (.inr (.inr (.inr (.inr (.inr (.inr (.inr (.inr (.inr (.inr (.inr (.inr (.inl ⟨rfl, h⟩)))))))))))))))) (fun _ _ h => .inr (.inr (.inr (.inr (.inr (.inr (.inr (.inr (.inr (.inr (.inr (.inr (.inr (.inr (.inr (.inr (.inl ⟨rfl, h⟩))))))))))))))))) (fun _ _ h => .inr (.inr (.inr (.inr (.inr (.inr (.inr (.inr (.inr (.inr (.inr (.inr (.inr (.inr (.inr (.inr (.inr (.inl ⟨rfl, h⟩)))))))))))))))))) (fun _ _ h => .inr (.inr (.inr (.inr (.inr (.inr (.inr (.inr (.inr (.inr (.inr (.inr (.inr (.inr (.inr (.inr (.inr (.inr (.inl ⟨rfl, h⟩))))))))))))))))))) (fun _ _ h => .inr (.inr (.inr (.inr (.inr (.inr (.inr (.inr (.inr (.inr (.inr (.inr (.inr (.inr (.inr (.inr (.inr (.inr (.inr (.inl ⟨rfl, h⟩)))))))))))))))))))) (fun _ _ h => .inr (.inr (.inr (.inr (.inr (.inr (.inr (.inr (.inr (.inr (.inr (.inr (.inr (.inr (.inr (.inr (.inr (.inr (.inr (.inr (.inl ⟨rfl, h⟩))))))))))))))))))))) (fun _ _ h => .inr (.inr (.inr (.inr (.inr (.inr (.inr (.inr (.inr (.inr (.inr (.inr (.inr (.inr (.inr (.inr (.inr (.inr (.inr (.inr (.inr (.inl ⟨rfl, h⟩)))))))))))))))))))))) (fun _ _ h => .inr (.inr (.inr (.inr (.inr (.inr (.inr (.inr (.inr (.inr (.inr (.inr (.inr (.inr (.inr (.inr (.inr (.inr (.inr (.inr (.inr (.inr (.inl ⟨rfl, h⟩))))))))))))))))))))))) (fun _ _ h => .inr (.inr (.inr (.inr (.inr (.inr (.inr (.inr (.inr (.inr (.inr (.inr (.inr (.inr (.inr (.inr (.inr (.inr (.inr (.inr (.inr (.inr (.inr (.inl ⟨rfl, h⟩)))))))))))))))))))))))) (g := true) (sm := true) (x := 0) (sg := 0) (e1 := 0) (e2 := 0) (e3 := 0) (e4 := 0) (n3 := true) (l3 := []) (b3 := []) (n4 := true) (l4 := []) (b4 := []) (n5 := true) (l5 := []) (b5 := []) (n6 := true) (l6 := []) (b6 := []) (n7 := true) (l7 := []) (b7 := []) (n8 := true) (l8 := []) (b8 := []) (.inr (.inl ⟨wakes7_R, w1, w2⟩))
  rw [Bool.eq_false_iff.2 g2] at w2
  have hA : LR a := by
    unfold longB at g1
    simp only [Bool.or_eq_true, decide_eq_true_eq, not_or] at g1
    exact ⟨ha.t, ha.b, by omega, by omega⟩
  have hB : LR b := by
    unfold longB at g2
    simp only [Bool.or_eq_true, decide_eq_true_eq, not_or] at g2
    exact ⟨hb.t, hb.b, by omega, by omega⟩
  have hv : fits (v : Rat) = true := fits_int v (by clear g1 g2; omega)
  exact steelyardlaw07_RatTells.walk rfl (fun _ _ h => .inl ⟨rfl, h⟩) (fun _ _ h => .inr (.inl ⟨rfl, h⟩)) (fun _ _ h => .inr (.inr (.inl ⟨rfl, h⟩))) (fun _ _ h => .inr (.inr (.inr (.inl ⟨rfl, h⟩)))) (fun _ _ h => .inr (.inr (.inr (.inr (.inl ⟨rfl, h⟩))))) (fun _ _ h => .inr (.inr (.inr (.inr (.inr (.inl ⟨rfl, h⟩)))))) (fun _ _ h => .inr (.inr (.inr (.inr (.inr (.inr (.inl ⟨rfl, h⟩))))))) (fun _ _ h => .inr (.inr (.inr (.inr (.inr (.inr (.inr (.inl ⟨rfl, h⟩)))))))) (fun _ _ h => .inr (.inr (.inr (.inr (.inr (.inr (.inr (.inr (.inl ⟨rfl, h⟩))))))))) (fun _ _ h => .inr (.inr (.inr (.inr (.inr (.inr (.inr (.inr (.inr (.inl ⟨rfl, h⟩)))))))))) (fun _ _ h => .inr (.inr (.inr (.inr (.inr (.inr (.inr (.inr (.inr (.inr (.inl ⟨rfl, h⟩))))))))))) (fun _ _ h => .inr (.inr (.inr (.inr (.inr (.inr (.inr (.inr (.inr (.inr (.inr (.inl ⟨rfl, h⟩)))))))))))) (fun _ _ h => .inr (.inr (.inr (.inr (.inr (.inr (.inr (.inr (.inr (.inr (.inr (.inr (.inl ⟨rfl, h⟩))))))))))))) (fun _ _ h => .inr (.inr (.inr (.inr (.inr (.inr (.inr (.inr (.inr (.inr (.inr (.inr (.inr (.inl ⟨rfl, h⟩)))))))))))))) (fun _ _ h => .inr (.inr (.inr (.inr (.inr (.inr (.inr (.inr (.inr (.inr (.inr (.inr (.inr (.inr (.inl ⟨rfl, h⟩))))))))))))))) (fun _ _ h => .inr (.inr (.inr (.inr (.inr (.inr (.inr (.inr (.inr (.inr (.inr (.inr (.inr (.inr (.inr (.inl ⟨rfl, h⟩)))))))))))))))) (fun _ _ h => .inr (.inr (.inr (.inr (.inr (.inr (.inr (.inr (.inr (.inr (.inr (.inr (.inr (.inr (.inr (.inr (.inl ⟨rfl, h⟩))))))))))))))))) (fun _ _ h => .inr (.inr (.inr (.inr (.inr (.inr (.inr (.inr (.inr (.inr (.inr (.inr (.inr (.inr (.inr (.inr (.inr (.inl ⟨rfl, h⟩)))))))))))))))))) (fun _ _ h => .inr (.inr (.inr (.inr (.inr (.inr (.inr (.inr (.inr (.inr (.inr (.inr (.inr (.inr (.inr (.inr (.inr (.inr (.inl ⟨rfl, h⟩))))))))))))))))))) (fun _ _ h => .inr (.inr (.inr (.inr (.inr (.inr (.inr (.inr (.inr (.inr (.inr (.inr (.inr (.inr (.inr (.inr (.inr (.inr (.inr (.inl ⟨rfl, h⟩)))))))))))))))))))) (fun _ _ h => .inr (.inr (.inr (.inr (.inr (.inr (.inr (.inr (.inr (.inr (.inr (.inr (.inr (.inr (.inr (.inr (.inr (.inr (.inr (.inr (.inl ⟨rfl, h⟩))))))))))))))))))))) (fun _ _ h => .inr (.inr (.inr (.inr (.inr (.inr (.inr (.inr (.inr (.inr (.inr (.inr (.inr (.inr (.inr (.inr (.inr (.inr (.inr (.inr (.inr (.inl ⟨rfl, h⟩)))))))))))))))))))))) (fun _ _ h => .inr (.inr (.inr (.inr (.inr (.inr (.inr (.inr (.inr (.inr (.inr (.inr (.inr (.inr (.inr (.inr (.inr (.inr (.inr (.inr (.inr (.inr (.inl ⟨rfl, h⟩))))))))))))))))))))))) (fun _ _ h => .inr (.inr (.inr (.inr (.inr (.inr (.inr (.inr (.inr (.inr (.inr (.inr (.inr (.inr (.inr (.inr (.inr (.inr (.inr (.inr (.inr (.inr (.inr (.inl ⟨rfl, h⟩)))))))))))))))))))))))) (.inr (.inr ⟨wakes7_R, w1, w2, own_R hA, own_R hB,
    add_R hA hB, add7_R ha hb, keep_S (addS_LR a b), sub_R hA hB, sub7_R ha hb, keep_S (subS_LR a b), mul_R hA hB, mul7_R ha hb, keep_S (mulS_LR a b), div_R hA hB, div7_R ha hb, keep_S (divS_LR a b),
    good_R ha, good7_R ha, cmp_R hA hB, cmp7_R ha hb, same_R hA hB, same7_R ha hb, sign_R hA, sign7_R ha, neg_R hA, neg7_R ha, keep_S LR_neg,
    whole_R v v0 v1, whole7_R v v0 v1, keep_F hv, keep_S hA, keep_S hB⟩))
end Go.Proofs.Yticngjjdjmadgaa.Num
end
