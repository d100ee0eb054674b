/- Part 5 of the proof. -/
import Derived.Below
import Derived.Deep.Draws
import Derived.Deep.AppendLies
import Derived.Maps.AppendAt
import Derived.OwnWalk
import Derived.Laws.BytesArg
import Derived.Laws.MakeOwn
import Derived.Laws.OwnMore
import Derived.Deep.OwnRows
import Derived.Tactics
import Derived.Lib.ConvBytes
import Derived.Laws.Slices
import Derived.WalkKit
import Derived.KernelRfl
import Derived.RowKit3
import Derived.Deep.LoopGhost
import Derived.Deep.QuietTactic
import Derived.BigQuiet
import Derived.WideLaws
import Derived.Deep.DeepCutAuto
import Derived.Deep.CutBlock
import Derived.Deep.RegionHeld3
import Derived.Laws.Rows
import Derived.Lib.AppendStr
import Derived.ArgAppend
import Derived.Laws.IdiomCopy
import Derived.RowKit
import Derived.OrdersHeld
import Derived.Laws.BitsLemmas
import Derived.Test.YtheciiemknmnoaaGreatProg
import Derived.Laws.StructEq
import Derived.Laws.Bits64b
import Derived.Laws.BitsAllLaws
import Derived.Laws.Tables
import Derived.Orders
import Derived.Laws.Cells
import Derived.Great.BuildSlice
import Derived.Deep.Slices
import Derived.Laws.AppendOwn
import Derived.Laws.LoneSync
import Derived.LoopN
import Derived.Test.YtheciiemknmnoaaGreatF4
set_option linter.unusedVariables false
set_option linter.unusedSimpArgs false
section
set_option linter.unusedVariables false
set_option linter.unusedSimpArgs false
namespace Go.Proofs.YtheciiemknmnoaaGreat.Num
open Go.RowKit Go.Proofs.YtheciiemknmnoaaGreatW.PrintWords Go.Proofs.YtheciiemknmnoaaGreatW.PrintMore Go.Proofs.YtheciiemknmnoaaGreat.PL

def Z (neg : Bool) (l : List Int) : Int := if neg = true then -(V l : Int) else (V l : Int)
def I (z : Int) : Bool × List Int := (decide (z < 0), N z.natAbs)
theorem Z_abs (neg : Bool) (l : List Int) : (Z neg l).natAbs = V l := by unfold Z; split <;> omega
theorem I_1 (z : Int) : (I z).1 = decide (z < 0) := rfl
theorem I_2 (z : Int) : (I z).2 = N z.natAbs := rfl
theorem Z_I (z : Int) : Z (I z).1 (I z).2 = z := by
 unfold Z I
 simp only [V_N, decide_eq_true_eq]
 split <;> omega
abbrev R3 : Type := Bool × List Int × List Int
abbrev R4 : Type := Bool × List Int × List Int × Int
def ratOf (q : Rat) : R3 := (decide (q.num < 0), N q.num.natAbs, N q.den)
def fits (q : Rat) : Bool := decide (len q.num.natAbs ≤ 64) && decide (len q.den ≤ 64)
def bad (e : Int) : R4 := (false, [], [], e)
def lim (q : Rat) : R4 := if fits q = true then ((ratOf q).1, (ratOf q).2.1, (ratOf q).2.2, 0) else bad 2
def qOf (a : R3) : Rat := mkRat (Z a.1 a.2.1) (V a.2.2)
def goodB (a : R3) : Bool := decide (N (V a.2.1) = a.2.1) && decide (N (V a.2.2) = a.2.2) && decide (a.2.2.length ≠ 0) && decide (a.2.2.length ≤ 64) && decide (a.2.1.length ≤ 64) && !(a.1 && decide (a.2.1.length = 0)) && decide (Nat.gcd (V a.2.1) (V a.2.2) = 1)
theorem mk_parts (z : Int) (b : Nat) (hb : b ≠ 0) : (mkRat z b).num.natAbs = z.natAbs / Nat.gcd z.natAbs b ∧ (mkRat z b).den = b / Nat.gcd z.natAbs b ∧ decide ((mkRat z b).num < 0) = decide (z < 0) := by
 rw [Rat.num_mkRat, Rat.den_mkRat, if_neg hb, if_neg hb, Nat.gcd_comm b]
 have hg : 0 < Nat.gcd z.natAbs b := Nat.gcd_pos_of_pos_right _ (by omega)
 have hd : ((Nat.gcd z.natAbs b : Nat) : Int) ∣ z := Int.ofNat_dvd_left.2 (Nat.gcd_dvd_left _ _)
 generalize Nat.gcd z.natAbs b = g at *
 obtain ⟨c, hc⟩ := hd
 refine ⟨?_, rfl, ?_⟩
 ·rw [hc, Int.mul_ediv_cancel_left _ (by omega), Int.natAbs_mul, Int.natAbs_natCast, Nat.mul_div_cancel_left _ hg]
 ·rw [hc, Int.mul_ediv_cancel_left _ (by omega), decide_eq_decide]
  constructor
  ·intro h
   exact Int.mul_neg_of_pos_of_neg (by omega) h
  ·intro h
   by_cases h2 : c < 0
   ·exact h2
   ·have := Int.mul_nonneg (show 0 ≤ (g : Int) from by omega) (show 0 ≤ c from by omega)
    omega
theorem good_iff {a : R3} : goodB a = true ↔ ∃ q : Rat, fits q = true ∧ a = ratOf q := by
 obtain ⟨neg, l, b⟩ := a
 unfold goodB
 simp only [Bool.and_eq_true, decide_eq_true_eq, Bool.not_eq_true', Bool.and_eq_false_iff, decide_eq_false_iff_not]
 constructor
 ·rintro ⟨⟨⟨⟨⟨⟨h1, h2⟩, h3⟩, h4⟩, h5⟩, h6⟩, h7⟩
  have hB : V b ≠ 0 := fun h => by
   rw [h, N_zero] at h2
   exact h3 (by rw [← h2]; rfl)
  obtain ⟨p1, p2, p3⟩ := mk_parts (Z neg l) (V b) hB
  rw [Z_abs, h7, Nat.div_one] at p1 p2
  have hlen1 : len (V l) = l.length := by rw [← N_length, h1]
  have hlen2 : len (V b) = b.length := by rw [← N_length, h2]
  refine ⟨mkRat (Z neg l) (V b), ?_, ?_⟩
  ·unfold fits
   rw [p1, p2, hlen1, hlen2, decide_eq_true h5, decide_eq_true h4]
   rfl
  ·unfold ratOf
   rw [p1, p2, p3, h1, h2]
   have : neg = decide (Z neg l < 0) := by
    have h0 : len (V l) = 0 ↔ V l = 0 := len_eq_zero
    unfold Z
    cases neg with
    | false => rw [if_neg (by simp)]; exact (decide_eq_false (by omega)).symm
    | true =>
     rw [if_pos rfl]
     refine (decide_eq_true ?_).symm
     rcases h6 with h6 | h6
     ·cases h6
     ·omega
   rw [← this]
 ·rintro ⟨q, hf, he⟩
  unfold ratOf at he
  injection he with e1 e2
  injection e2 with e2 e3
  subst e1 e2 e3
  unfold fits at hf
  simp only [Bool.and_eq_true, decide_eq_true_eq] at hf
  rw [V_N, V_N, N_length, N_length]
  have hd := q.den_nz
  refine ⟨⟨⟨⟨⟨⟨rfl, rfl⟩, fun h => hd (len_eq_zero.1 h)⟩, hf.2⟩, hf.1⟩, ?_⟩, q.reduced⟩
  by_cases h : q.num < 0
  ·right
   intro h2
   have := len_eq_zero.1 h2
   omega
  ·left
   exact decide_eq_false h
theorem Z_ratOf (q : Rat) : Z (ratOf q).1 (ratOf q).2.1 = q.num := Z_I q.num
theorem V_ratOf (q : Rat) : V (ratOf q).2.2 = q.den := V_N _
theorem qOf_ratOf (q : Rat) : qOf (ratOf q) = q := by
 unfold qOf
 rw [Z_ratOf, V_ratOf, Rat.mkRat_self]
structure LR (a : R3) : Prop where
 t : Limbs a.2.1
 b : Limbs a.2.2
 lt : a.2.1.length < 100000
 lb : a.2.2.length < 100000
theorem fits_len {q : Rat} (h : fits q = true) : len q.num.natAbs ≤ 64 ∧ len q.den ≤ 64 := by
 unfold fits at h
 simpa using h
theorem LR_ratOf {q : Rat} (h : fits q = true) : LR (ratOf q) := by
 obtain ⟨h1, h2⟩ := fits_len h
 exact ⟨N_limbs _, N_limbs _, by show len q.num.natAbs < _; omega, by show len q.den < _; omega⟩
theorem good_ratOf {q : Rat} (h : fits q = true) : goodB (ratOf q) = true := good_iff.2 ⟨q, h, rfl⟩
def addS (a b : R3) : R4 := if (goodB a && goodB b) = true then lim (qOf a + qOf b) else bad 1
def mulS (a b : R3) : R4 := if (goodB a && goodB b) = true then lim (qOf a * qOf b) else bad 1
def divS (a b : R3) : R4 := if (goodB a && goodB b) = true then (if qOf b = 0 then bad 3 else lim (qOf a / qOf b)) else bad 1
def subS (a b : R3) : R4 := if (goodB a && goodB b) = true then lim (qOf a - qOf b) else bad 1
def none3 : R3 := (false, [], [])
def negS (a : R3) : R3 := if goodB a = true then ratOf (-qOf a) else none3
theorem len_mul (a b : Nat) : len (a * b) ≤ len a + len b := len_le.2 (by rw [Nat.pow_add]; exact Nat.mul_lt_mul'' (lt_len a) (lt_len b))
theorem len_mulZ (a b : Int) : len (a * b).natAbs ≤ len a.natAbs + len b.natAbs := by rw [Int.natAbs_mul]; exact len_mul _ _
theorem len_add (a b : Nat) : len (a + b) ≤ len a + len b + 1 := len_le.2 (by
 have h3 := lt_len a
 have h4 := lt_len b
 have h5 : 4294967296 ^ len a ≤ 4294967296 ^ (len a + len b) := Nat.pow_le_pow_right (by omega) (by omega)
 have h6 : 4294967296 ^ len b ≤ 4294967296 ^ (len a + len b) := Nat.pow_le_pow_right (by omega) (by omega)
 rw [Nat.pow_succ]
 omega)
theorem len_addZ (a b : Int) : len (a + b).natAbs ≤ len a.natAbs + len b.natAbs + 1 := Nat.le_trans (len_mono (Int.natAbs_add_le a b)) (len_add _ _)
theorem inv_mk (q : Rat) (h : q.num ≠ 0) : q⁻¹ = mkRat (if q.num < 0 then -(q.den : Int) else (q.den : Int)) q.num.natAbs := by
 rw [Rat.inv_def]
 generalize q.num = z at *
 cases z with
 | ofNat n => rw [if_neg (by simp)]; rfl
 | negSucc n =>
  rw [if_pos (Int.negSucc_lt_zero n)]
  show Rat.normalize (-(q.den : Int)) (n + 1) (Nat.succ_ne_zero n) = _
  rw [Rat.normalize_eq_mkRat]
  rfl
theorem div_mk (p q : Rat) (h : q.num ≠ 0) : mkRat (if q.num < 0 then -(p.num * q.den) else p.num * q.den) (p.den * q.num.natAbs) = p / q := by
 rw [Rat.div_def, inv_mk q h]
 conv => rhs; rw [← Rat.mkRat_self p, Rat.mkRat_mul_mkRat]
 split
 ·rw [Int.mul_neg]
 ·rfl
theorem fits_neg (q : Rat) : fits (-q) = fits q := by unfold fits; rw [Rat.neg_num, Rat.neg_den, Int.natAbs_neg]
theorem good_none : goodB none3 = false := by unfold goodB none3; simp
theorem LR_neg {a : R3} : LR (negS a) := by
 unfold negS
 by_cases h : goodB a = true
 ·rw [if_pos h]
  obtain ⟨p, hp, rfl⟩ := good_iff.1 h
  rw [qOf_ratOf]
  exact LR_ratOf (by rw [fits_neg]; exact hp)
 ·rw [if_neg h]
  exact ⟨Limbs.nil, Limbs.nil, by show 0 < _; omega, by show 0 < _; omega⟩
theorem sub_eq (a b : R3) : addS a (negS b) = subS a b := by
 unfold addS subS negS
 by_cases h : goodB b = true
 ·rw [if_pos h]
  obtain ⟨p, hp, rfl⟩ := good_iff.1 h
  rw [qOf_ratOf, qOf_ratOf, good_ratOf (by rw [fits_neg]; exact hp), h, Rat.sub_eq_add_neg]
 ·rw [if_neg h, good_none, Bool.and_false, if_neg (by simp), if_neg (by simp [h])]
theorem ratOf_int (v : Int) : ratOf (v : Rat) = ((I v).1, (I v).2, N 1) := by
 unfold ratOf I
 rw [Rat.num_intCast, Rat.den_intCast]
theorem fits_int (v : Int) (h : v.natAbs < 18446744073709551616) : fits (v : Rat) = true := by
 unfold fits
 rw [Rat.num_intCast, Rat.den_intCast]
 have h1 : len v.natAbs ≤ 2 := len_le.2 (by omega)
 have h2 : len 1 ≤ 1 := len_le.2 (by omega)
 simp
 omega
theorem N_one : N 1 = [1] := by rw [N_pos (by omega), N_zero]; rfl
structure LB (a : R3) : Prop where
 t : Limbs a.2.1
 b : Limbs a.2.2
 lt : a.2.1.length < 9223372036854775808
 lb : a.2.2.length < 9223372036854775808
theorem LR.wide {a : R3} (h : LR a) : LB a := ⟨h.t, h.b, by have := h.lt; omega, by have := h.lb; omega⟩
def powS (a : R3) (n : Int) : R4 := if goodB a = true then (if -128 ≤ n ∧ n ≤ 128 then (if n < 0 ∧ qOf a = 0 then bad 3 else lim (qOf a ^ n)) else bad 2) else bad 1
theorem pow_sign (p : Rat) (e : Nat) (h0 : 0 < e) (h1 : e ≤ 128) : Z ((ratOf p).1 && (Int.tmod (e : Int) 2 == 1)) (N (p.num.natAbs ^ e)) = p.num ^ e := by
 unfold Z
 rw [V_N, show (ratOf p).1 = decide (p.num < 0) from rfl]
 generalize p.num = z
 have ht : Int.tmod (e : Int) 2 = ((e % 2 : Nat) : Int) := rfl
 rw [ht]
 by_cases hz : z < 0
 ·rw [decide_eq_true hz, Bool.true_and]
  obtain ⟨m, rfl⟩ : ∃ m : Nat, z = -(m : Int) := ⟨z.natAbs, by omega⟩
  rw [Int.natAbs_neg, Int.natAbs_natCast, Int.natCast_pow]
  rcases Nat.mod_two_eq_zero_or_one e with h | h
  ·rw [h, if_neg (by decide)]
   obtain ⟨c, hc⟩ : ∃ c, e = 2 * c := ⟨e / 2, by omega⟩
   rw [hc, Int.pow_mul, Int.pow_mul]
   congr 1
   rw [Int.pow_succ, Int.pow_succ, Int.pow_succ, Int.pow_succ, Int.pow_zero, Int.pow_zero, Int.one_mul, Int.one_mul, Int.neg_mul_neg]
  ·rw [h, if_pos (by decide)]
   obtain ⟨c, hc⟩ : ∃ c, e = 2 * c + 1 := ⟨e / 2, by omega⟩
   rw [hc, Int.pow_succ, Int.pow_succ, Int.pow_mul, Int.pow_mul, Int.mul_neg]
   congr 3
   rw [Int.pow_succ, Int.pow_succ, Int.pow_succ, Int.pow_succ, Int.pow_zero, Int.pow_zero, Int.one_mul, Int.one_mul, Int.neg_mul_neg]
 ·rw [decide_eq_false hz, Bool.false_and, if_neg (by simp), Int.natCast_pow]
  congr 1
  omega
theorem pow_mk (p : Rat) (e : Nat) : mkRat (p.num ^ e) (p.den ^ e) = p ^ e := by
 have := Rat.mkRat_self (p ^ e)
 rw [Rat.num_pow, Rat.den_pow] at this
 exact this
theorem pow_far (p : Rat) (e : Nat) (h : ¬ (len (p.num.natAbs ^ e) ≤ 256) ∨ ¬ (len (p.den ^ e) ≤ 256)) : lim (p ^ e) = bad 2 := by
 unfold lim
 rw [if_neg]
 unfold fits
 rw [Rat.num_pow, Rat.den_pow, Int.natAbs_pow]
 intro h2
 simp only [Bool.and_eq_true, decide_eq_true_eq] at h2
 omega
theorem inv_parts (q : Rat) (h : q ≠ 0) : (q⁻¹).num.natAbs = q.den ∧ (q⁻¹).den = q.num.natAbs := by
 have hz : q.num ≠ 0 := fun h2 => h (Rat.num_eq_zero.1 h2)
 rw [inv_mk q hz]
 obtain ⟨p1, p2, _⟩ := mk_parts (if q.num < 0 then -(q.den : Int) else (q.den : Int)) q.num.natAbs (by omega)
 have e : (if q.num < 0 then -(q.den : Int) else (q.den : Int)).natAbs = q.den := by split <;> omega
 have hr : Nat.gcd q.den q.num.natAbs = 1 := by rw [Nat.gcd_comm]; exact q.reduced
 rw [e, hr, Nat.div_one] at p1 p2
 exact ⟨p1, p2⟩
theorem fits_inv {q : Rat} (hq : fits q = true) (h : q ≠ 0) : fits q⁻¹ = true := by
 obtain ⟨f1, f2⟩ := fits_len hq
 obtain ⟨e1, e2⟩ := inv_parts q h
 unfold fits
 rw [e1, e2, decide_eq_true f1, decide_eq_true f2]
 rfl
theorem inv_pow (p : Rat) (e : Nat) : p⁻¹ ^ e = (p ^ e)⁻¹ := by
 induction e with
 | zero => rw [Rat.pow_zero, Rat.pow_zero]; decide +kernel
 | succ e ih => rw [Rat.pow_succ, Rat.pow_succ, ih, Rat.inv_mul_rev, Rat.mul_comm]
theorem lim_fits {q : Rat} (h : fits q = true) : lim q = ((ratOf q).1, (ratOf q).2.1, (ratOf q).2.2, 0) := if_pos h
theorem len_pow (a e : Nat) : len (a ^ e) ≤ e * len a + 1 := by
 induction e with
 | zero => rw [Nat.pow_zero, Nat.zero_mul]; exact len_le.2 (by decide)
 | succ e ih =>
  rw [Nat.pow_succ, Nat.succ_mul]
  have := len_mul (a ^ e) a
  omega
theorem zpow_inv (p : Rat) (e : Nat) : p ^ (-(e : Int)) = (p ^ e)⁻¹ := by rw [Rat.zpow_neg, Rat.zpow_natCast]
theorem pow_ne {p : Rat} (h : p ≠ 0) (e : Nat) : p ^ e ≠ 0 := by
 induction e with
 | zero => rw [Rat.pow_zero]; decide +kernel
 | succ e ih =>
  rw [Rat.pow_succ]
  intro h2
  rcases Rat.mul_eq_zero.1 h2 with h3 | h3
  ·exact ih h3
  ·exact h h3
theorem divS_fits {p q : Rat} (hp : fits p = true) (hq : fits q = true) (h0 : q ≠ 0) (hf : fits (p / q) = true) : divS (ratOf p) (ratOf q) = ((ratOf (p / q)).1, (ratOf (p / q)).2.1, (ratOf (p / q)).2.2, 0) := by
 unfold divS
 rw [good_ratOf hp, good_ratOf hq, qOf_ratOf, qOf_ratOf, if_neg h0, lim_fits hf]
 rfl
theorem fits_one : fits (1 : Rat) = true := by decide +kernel
theorem sign_mul (x y : Int) : Z (decide (x < 0) != decide (y < 0)) (N (x.natAbs * y.natAbs)) = x * y := by
 unfold Z
 rw [V_N, Int.natCast_mul]
 by_cases hx : x < 0 <;> by_cases hy : y < 0
 ·rw [decide_eq_true hx, decide_eq_true hy, if_neg (by decide), show ((x.natAbs : Nat) : Int) = -x from by omega, show ((y.natAbs : Nat) : Int) = -y from by omega, Int.neg_mul_neg]
 ·rw [decide_eq_true hx, decide_eq_false hy, if_pos (by decide), show ((x.natAbs : Nat) : Int) = -x from by omega, show ((y.natAbs : Nat) : Int) = y from by omega, Int.neg_mul, Int.neg_neg]
 ·rw [decide_eq_false hx, decide_eq_true hy, if_pos (by decide), show ((x.natAbs : Nat) : Int) = x from by omega, show ((y.natAbs : Nat) : Int) = -y from by omega, Int.mul_neg, Int.neg_neg]
 ·rw [decide_eq_false hx, decide_eq_false hy, if_neg (by decide), show ((x.natAbs : Nat) : Int) = x from by omega, show ((y.natAbs : Nat) : Int) = y from by omega]
theorem len_pow64 (a e : Nat) (h : len a ≤ 64) (he : e ≤ 128) : len (a ^ e) ≤ 8193 := by
 have h1 := len_pow a e
 have h2 : e * len a ≤ 128 * 64 := Nat.mul_le_mul he h
 omega
end Go.Proofs.YtheciiemknmnoaaGreat.Num
end
section
set_option linter.unusedVariables false
set_option linter.unusedSimpArgs false
set_option maxRecDepth 100000
set_option maxHeartbeats 4000000
namespace Go.Proofs.YtheciiemknmnoaaGreat.Rd
open Go Go.RowKit Go.Proofs.YtheciiemknmnoaaGreatW.PrintWords Go.Proofs.YtheciiemknmnoaaGreat.PL Go.Proofs.YtheciiemknmnoaaGreat.Num

abbrev ui (n : Int) : U := .v (.int .i64 n)
abbrev ub (b : Bool) : U := .v (.bool b)
def uI (z : Int) : U := .agg [ub (decide (z < 0)), .l (N z.natAbs)]
theorem cnt_N (n : Nat) : cnt (N n) = len n := rfl
theorem lenV {l : List Int} (h : Limbs l) : (len (V l) : Int) ≤ cnt l := by have := len_V h; unfold cnt; omega
theorem tI {C : Orc} {n : Nat} {us : List U} {z : Int} (h : C n us (uI z)) : ∃ s l, C n us (.agg [ub s, .l l]) ∧ s = decide (z < 0) ∧ l = N z.natAbs := ⟨_, _, h, rfl, rfl⟩
theorem tN {C : Orc} {n : Nat} {us : List U} {x : Nat} (h : C n us (.l (N x))) : ∃ l, C n us (.l l) ∧ l = N x := ⟨_, h, rfl⟩
theorem trimR {l : List Int} (hl : Limbs l) (hs : cnt l ≤ 1000000) : nat_Trim.R [.l l] (.l (N (V l))) := by obtain ⟨k, hk⟩ := (trim_tells hl (by unfold cnt at hs; omega)).rounds; exact ⟨k, _, _, rfl, hk, rfl⟩
theorem mulR {a b : List Int} (ha : Limbs a) (hb : Limbs b) (h1 : cnt a ≤ 1000000) (h2 : cnt b ≤ 1000000) : mul_Of.R [.l a, .l b] (.l (N (V a * V b))) := by obtain ⟨k, hk⟩ := (mul_tells ha hb (by unfold cnt at h1; omega) (by unfold cnt at h2; omega)).rounds; exact ⟨k, _, _, _, rfl, hk, rfl⟩
theorem addR {a b : List Int} (ha : Limbs a) (hb : Limbs b) (h1 : cnt a ≤ 1000000) (h2 : cnt b ≤ 1000000) : nat_Add.R [.l a, .l b] (.l (N (V a + V b))) := by obtain ⟨k, hk⟩ := (add_tells ha hb (by unfold cnt at h1; omega) (by unfold cnt at h2; omega)).rounds; exact ⟨k, _, _, _, rfl, hk, rfl⟩
theorem subR {a b : List Int} (ha : Limbs a) (hb : Limbs b) (h1 : cnt a ≤ 1000000) (h2 : cnt b ≤ 1000000) : nat_Sub.R [.l a, .l b] (.tup [.l (if V a < V b then [] else N (V a - V b)), ub (decide (V b ≤ V a))]) := by
 obtain ⟨k, hk⟩ := (sub_tells ha hb (by unfold cnt at h1; omega) (by unfold cnt at h2; omega)).rounds
 by_cases h : V a < V b
 ·rw [if_pos h] at hk; rw [if_pos h, decide_eq_false (by omega)]; exact ⟨k, _, _, _, _, rfl, hk, rfl⟩
 ·rw [if_neg h] at hk; rw [if_neg h, decide_eq_true (by omega)]; exact ⟨k, _, _, _, _, rfl, hk, rfl⟩
theorem ncmpR {a b : List Int} (ha : Limbs a) (hb : Limbs b) (h1 : cnt a ≤ 1000000) (h2 : cnt b ≤ 1000000) : nat_Cmp.R [.l a, .l b] (ui (cmpN (V a) (V b))) := by obtain ⟨k, hk⟩ := (cmp_tells ha hb (by unfold cnt at h1; omega) (by unfold cnt at h2; omega)).rounds; exact ⟨k, _, _, _, rfl, hk, rfl⟩
theorem gcdR {a b : List Int} (ha : Limbs a) (hb : Limbs b) (h1 : cnt a ≤ 1000000) (h2 : cnt b ≤ 1000000) : quo_Gcd.R [.l a, .l b] (.l (N (Nat.gcd (V a) (V b)))) := by obtain ⟨k, hk⟩ := (gcd_tells ha hb (by unfold cnt at h1; omega) (by unfold cnt at h2; omega)).rounds; exact ⟨k, _, _, _, rfl, hk, rfl⟩
theorem nofR (n : Nat) (h : n < 18446744073709551616) : nat_Of.R [.v (.int .u64 n)] (.l (N n)) := by obtain ⟨k, hk⟩ := (nat_of_tells (v := n) (by omega) (by omega)).rounds; rw [Int.toNat_natCast] at hk; exact ⟨k, _, _, rfl, hk, rfl⟩
def madeR (us : List U) (u : U) : Prop := ∃ s l, Limbs l ∧ cnt l ≤ 1000000 ∧ us = [ub s, .l l] ∧ u = uI (Z s l)
theorem uI_Z (s : Bool) (l : List Int) : uI (Z s l) = .agg [ub (s && decide (0 < cnt (N (V l)))), .l (N (V l))] := by
 unfold uI
 rw [Z_abs, cnt_N]
 have h0 : len (V l) = 0 ↔ V l = 0 := len_eq_zero
 have e : decide (Z s l < 0) = (s && decide (0 < (len (V l) : Int))) := by
  unfold Z
  cases s with
  | false => rw [if_neg (by simp), Bool.false_and]; exact decide_eq_false (by omega)
  | true => rw [if_pos rfl, Bool.true_and, decide_eq_decide]; omega
 rw [e]
theorem made_ok : SoundF Tryz.prog 102 madeR := sound [(77, nat_Trim.R)] (orc_cons nat_Trim.sound orc_nil) Tryz.func102 (by kernel_rfl) (by kernel_rfl) fun us u hR => ⟨0, fun C E hC => by
 obtain ⟨s, l, hl, hs, rfl, hu⟩ := hR
 rw [uI_Z] at hu
 obtain ⟨l', k1, el⟩ := tN (hC 77 nat_Trim.R (by simp) _ _ (trimR hl hs))
 rw [← el] at hu
 clear el
 have g := cnt0 l'
 by_cases h0 : 0 < cnt l' <;> cases s <;> cbv <;> (repeat ((first | refine ln fun _ _ _ => ?_ | refine tt ?_ | refine ff ?_ | refine wr fun _ _ => ?_ | refine wu fun _ _ => ?_ | refine rp fun _ _ _ => ?_ | refine cp fun _ => ?_ | with_reducible refine bq ?_ | refine cl ?_ | refine sd ?_ | intro _ _); cbv)) <;> (rw [hu]; simp [h0])⟩
def wTrimR (us : List U) (u : U) : Prop := ∃ s l, Limbs l ∧ cnt l ≤ 1000000 ∧ us = [.agg [ub s, .l l]] ∧ u = uI (Z s l)
theorem wTrim_ok : SoundF Tryz.prog 73 wTrimR := sound [(102, madeR)] (orc_cons made_ok orc_nil) Tryz.func73 (by kernel_rfl) (by kernel_rfl) fun us u hR => ⟨0, fun C E hC => by
 obtain ⟨s, l, hl, hs, rfl, hu⟩ := hR
 obtain ⟨s1, l1, k1, e1, e2⟩ := tI (hC 102 madeR (by simp) _ _ ⟨s, l, hl, hs, rfl, rfl⟩)
 cbv
 (repeat ((first | refine ln fun _ _ _ => ?_ | refine tt ?_ | refine ff ?_ | refine wr fun _ _ => ?_ | refine wu fun _ _ => ?_ | refine rp fun _ _ _ => ?_ | refine cp fun _ => ?_ | with_reducible refine bq ?_ | refine cl ?_ | refine sd ?_ | intro _ _); cbv))
 rw [hu, e1, e2]; rfl⟩
def wNegR (us : List U) (u : U) : Prop := ∃ s l, Limbs l ∧ cnt l ≤ 1000000 ∧ us = [.agg [ub s, .l l]] ∧ u = uI (-Z s l)
theorem Z_not (s : Bool) (l : List Int) : Z (!s) l = -Z s l := by unfold Z; cases s <;> simp
theorem wNeg_ok : SoundF Tryz.prog 90 wNegR := sound [(102, madeR)] (orc_cons made_ok orc_nil) Tryz.func90 (by kernel_rfl) (by kernel_rfl) fun us u hR => ⟨0, fun C E hC => by
 obtain ⟨s, l, hl, hs, rfl, hu⟩ := hR
 rw [← Z_not] at hu
 generalize hs' : (!s) = s' at hu
 obtain ⟨s1, l1, k1, e1, e2⟩ := tI (hC 102 madeR (by simp) _ _ ⟨s', l, hl, hs, rfl, rfl⟩)
 cases s <;> subst hs' <;> cbv <;> (repeat ((first | refine ln fun _ _ _ => ?_ | refine tt ?_ | refine ff ?_ | refine wr fun _ _ => ?_ | refine wu fun _ _ => ?_ | refine rp fun _ _ _ => ?_ | refine cp fun _ => ?_ | with_reducible refine bq ?_ | refine cl ?_ | refine sd ?_ | intro _ _); cbv)) <;> (rw [hu, e1, e2]; rfl)⟩
def wMulR (us : List U) (u : U) : Prop := ∃ s1 l1 s2 l2, Limbs l1 ∧ Limbs l2 ∧ cnt l1 ≤ 100000 ∧ cnt l2 ≤ 100000 ∧ us = [.agg [ub s1, .l l1], .agg [ub s2, .l l2]] ∧ u = uI (Z s1 l1 * Z s2 l2)
theorem Z_mul (s1 s2 : Bool) (l1 l2 : List Int) : Z (s1 != s2) (N (V l1 * V l2)) = Z s1 l1 * Z s2 l2 := by
 unfold Z
 rw [V_N]
 cases s1 <;> cases s2 <;> simp [Int.mul_neg, Int.neg_mul]
theorem cnt_mul {l1 l2 : List Int} (h1 : Limbs l1) (h2 : Limbs l2) : cnt (N (V l1 * V l2)) ≤ cnt l1 + cnt l2 := by
 have := len_mul (V l1) (V l2)
 have := lenV h1
 have := lenV h2
 rw [cnt_N]
 omega
theorem wMul_ok : SoundF Tryz.prog 89 wMulR := sound [(102, madeR), (88, mul_Of.R)] (orc_cons made_ok (orc_cons mul_Of.sound orc_nil)) Tryz.func89 (by kernel_rfl) (by kernel_rfl) fun us u hR => ⟨0, fun C E hC => by
 obtain ⟨s1, l1, s2, l2, h1, h2, c1, c2, rfl, hu⟩ := hR
 rw [← Z_mul] at hu
 have c3 := cnt_mul h1 h2
 obtain ⟨l3, k1, e3⟩ := tN (hC 88 mul_Of.R (by simp) _ _ (mulR h1 h2 (by omega) (by omega)))
 obtain ⟨s4, l4, k2, e4, e5⟩ := tI (hC 102 madeR (by simp) _ _ ⟨s1 != s2, N (V l1 * V l2), N_limbs _, by omega, rfl, rfl⟩)
 rw [← e3] at k2 hu e4 e5
 clear e3
 cases s1 <;> cases s2 <;> cbv <;> (repeat ((first | refine ln fun _ _ _ => ?_ | refine tt ?_ | refine ff ?_ | refine wr fun _ _ => ?_ | refine wu fun _ _ => ?_ | refine rp fun _ _ _ => ?_ | refine cp fun _ => ?_ | with_reducible refine bq ?_ | refine cl ?_ | refine sd ?_ | intro _ _); cbv)) <;> (rw [hu, e4, e5]; rfl)⟩
def wAddR (us : List U) (u : U) : Prop := ∃ s1 l1 s2 l2, Limbs l1 ∧ Limbs l2 ∧ cnt l1 ≤ 100000 ∧ cnt l2 ≤ 100000 ∧ us = [.agg [ub s1, .l l1], .agg [ub s2, .l l2]] ∧ u = uI (Z s1 l1 + Z s2 l2)
theorem wAdd_ok : SoundF Tryz.prog 86 wAddR := sound [(102, madeR), (73, wTrimR), (111, nat_Add.R), (112, nat_Sub.R)] (orc_cons made_ok (orc_cons wTrim_ok (orc_cons nat_Add.sound (orc_cons nat_Sub.sound orc_nil)))) Tryz.func86 (by kernel_rfl) (by kernel_rfl) fun us u hR => ⟨0, fun C E hC => by
 obtain ⟨s1, l1, s2, l2, h1, h2, c1, c2, rfl, hu⟩ := hR
 obtain ⟨t1, m1, k1, e1, f1⟩ := tI (hC 73 wTrimR (by simp) _ _ ⟨s1, l1, h1, by omega, rfl, rfl⟩)
 obtain ⟨t2, m2, k2, e2, f2⟩ := tI (hC 73 wTrimR (by simp) _ _ ⟨s2, l2, h2, by omega, rfl, rfl⟩)
 have b1 := lenV h1
 have b2 := lenV h2
 rw [Z_abs] at f1 f2
 rw [← Z_abs s1 l1] at f1 b1
 rw [← Z_abs s2 l2] at f2 b2
 generalize Z s1 l1 = x at *
 generalize Z s2 l2 = y at *
 have g1 : Limbs m1 := f1 ▸ N_limbs _
 have g2 : Limbs m2 := f2 ▸ N_limbs _
 have v1 : V m1 = x.natAbs := by rw [f1, V_N]
 have v2 : V m2 = y.natAbs := by rw [f2, V_N]
 have d1 : cnt m1 ≤ 100000 := by rw [f1, cnt_N]; omega
 have d2 : cnt m2 ≤ 100000 := by rw [f2, cnt_N]; omega
 have fin : ∀ (s : Bool) (n : Nat), Z s (N n) = x + y → len n ≤ len x.natAbs + len y.natAbs + 1 → ∃ s4 l4, C 102 [ub s, .l (N n)] (.agg [ub s4, .l l4]) ∧ u = .agg [ub s4, .l l4] := fun s n hz hn => by
  have hs := hC 102 madeR (by simp) _ _ ⟨s, N n, N_limbs _, by rw [cnt_N]; omega, rfl, rfl⟩
  rw [hz] at hs
  exact ⟨_, _, hs, hu⟩
 have L1 := len_add x.natAbs y.natAbs
 by_cases hc : t1 = t2
 ·have k3 := hC 111 nat_Add.R (by simp) _ _ (addR g1 g2 (by omega) (by omega))
  rw [v1, v2] at k3
  obtain ⟨s4, l4, k4, hu'⟩ := fin t1 (x.natAbs + y.natAbs) (by unfold Z; rw [V_N, e1]; rw [e1, e2, decide_eq_decide] at hc; simp only [decide_eq_true_eq]; split <;> omega) (by omega)
  obtain ⟨l3, k3, e3⟩ := tN k3
  rw [← e3] at k4
  clear fin hu e3 e1 e2
  subst hc
  cases t1 <;> cbv <;> (repeat ((first | refine ln fun _ _ _ => ?_ | refine tt ?_ | refine ff ?_ | refine wr fun _ _ => ?_ | refine wu fun _ _ => ?_ | refine rp fun _ _ _ => ?_ | refine cp fun _ => ?_ | with_reducible refine bq ?_ | refine cl ?_ | refine sd ?_ | intro _ _); cbv)) <;> exact hu'.symm
 ·have k3 := hC 112 nat_Sub.R (by simp) _ _ (subR g1 g2 (by omega) (by omega))
  rw [v1, v2] at k3
  by_cases hlt : x.natAbs < y.natAbs
  ·have k5 := hC 112 nat_Sub.R (by simp) _ _ (subR g2 g1 (by omega) (by omega))
   rw [v1, v2, if_neg (by omega), decide_eq_true (by omega)] at k5
   rw [if_pos hlt, decide_eq_false (by omega)] at k3
   obtain ⟨s4, l4, k4, hu'⟩ := fin t2 (y.natAbs - x.natAbs) (by unfold Z; rw [V_N, e2]; rw [e1, e2, decide_eq_decide] at hc; simp only [decide_eq_true_eq]; split <;> omega) (by have := len_mono (a := y.natAbs - x.natAbs) (b := y.natAbs) (by omega); omega)
   generalize N (y.natAbs - x.natAbs) = l3 at *
   clear fin hu e1 e2
   cases t1 <;> cases t2 <;> first | exact absurd rfl hc | (cbv; (repeat ((first | refine ln fun _ _ _ => ?_ | refine tt ?_ | refine ff ?_ | refine wr fun _ _ => ?_ | refine wu fun _ _ => ?_ | refine rp fun _ _ _ => ?_ | refine cp fun _ => ?_ | with_reducible refine bq ?_ | refine cl ?_ | refine sd ?_ | intro _ _); cbv)); exact hu'.symm)
  ·rw [if_neg hlt, decide_eq_true (by omega)] at k3
   obtain ⟨s4, l4, k4, hu'⟩ := fin t1 (x.natAbs - y.natAbs) (by unfold Z; rw [V_N, e1]; rw [e1, e2, decide_eq_decide] at hc; simp only [decide_eq_true_eq]; split <;> omega) (by have := len_mono (a := x.natAbs - y.natAbs) (b := x.natAbs) (by omega); omega)
   generalize N (x.natAbs - y.natAbs) = l3 at *
   clear fin hu e1 e2
   cases t1 <;> cases t2 <;> first | exact absurd rfl hc | (cbv; (repeat ((first | refine ln fun _ _ _ => ?_ | refine tt ?_ | refine ff ?_ | refine wr fun _ _ => ?_ | refine wu fun _ _ => ?_ | refine rp fun _ _ _ => ?_ | refine cp fun _ => ?_ | with_reducible refine bq ?_ | refine cl ?_ | refine sd ?_ | intro _ _); cbv)); exact hu'.symm)⟩
def wOfR (us : List U) (u : U) : Prop := ∃ v : Int, -9223372036854775808 ≤ v ∧ v ≤ 9223372036854775807 ∧ us = [ui v] ∧ u = uI v
theorem wOf_ok : SoundF Tryz.prog 113 wOfR := sound [(102, madeR), (49, nat_Of.R)] (orc_cons made_ok (orc_cons nat_Of.sound orc_nil)) Tryz.func113 (by kernel_rfl) (by kernel_rfl) fun us u hR => ⟨0, fun C E hC => by
 obtain ⟨v, h0, h1, rfl, hu⟩ := hR
 have hl : len v.natAbs ≤ 2 := len_le.2 (by omega)
 have k1 : ∀ r : Int, 0 ≤ r → (r = v ∨ r = -v) → C 49 [.v (.int .u64 r)] (.l (N v.natAbs)) := fun r g0 g1 => by
  have := hC 49 nat_Of.R (by simp) _ _ (nofR v.natAbs (by omega))
  rwa [show ((v.natAbs : Nat) : Int) = r by omega] at this
 have k2 := hC 102 madeR (by simp) _ _ ⟨decide (v < 0), N v.natAbs, N_limbs _, by rw [cnt_N]; omega, rfl, rfl⟩
 rw [show Z (decide (v < 0)) (N v.natAbs) = v from Z_I v, ← hu] at k2
 obtain ⟨s4, l4, hu'⟩ : ∃ s l, u = .agg [ub s, .l l] := ⟨_, _, hu⟩
 rw [hu'] at k2
 generalize N v.natAbs = l at *
 by_cases h : v < 0
 ·rw [decide_eq_true h] at k2
  cbv
  refine tt ?_
  cbv
  refine wu fun r1 q1 => ?_
  cbv
  refine wu fun r2 q2 => ?_
  cbv
  refine cl ?_ (k1 r2 (by omega) (by omega))
  cbv
  (repeat ((first | refine ln fun _ _ _ => ?_ | refine tt ?_ | refine ff ?_ | refine wr fun _ _ => ?_ | refine wu fun _ _ => ?_ | refine rp fun _ _ _ => ?_ | refine cp fun _ => ?_ | with_reducible refine bq ?_ | refine cl ?_ | refine sd ?_ | intro _ _); cbv))
  exact hu'.symm
 ·rw [decide_eq_false h] at k2
  cbv
  refine ff ?_
  cbv
  refine wu fun r1 q1 => ?_
  cbv
  refine cl ?_ (k1 r1 (by omega) (by omega))
  cbv
  (repeat ((first | refine ln fun _ _ _ => ?_ | refine tt ?_ | refine ff ?_ | refine wr fun _ _ => ?_ | refine wu fun _ _ => ?_ | refine rp fun _ _ _ => ?_ | refine cp fun _ => ?_ | with_reducible refine bq ?_ | refine cl ?_ | refine sd ?_ | intro _ _); cbv))
  exact hu'.symm⟩
def uR (a : R3) : U := .agg [ub a.1, .l a.2.1, .l a.2.2]
def uR4 (a : R4) : U := .tup [.agg [ub a.1, .l a.2.1, .l a.2.2.1], ui a.2.2.2]
theorem tR {C : Orc} {n : Nat} {us : List U} {a : R3} (h : C n us (uR a)) : ∃ s l b, C n us (.agg [ub s, .l l, .l b]) ∧ (s, l, b) = a := ⟨_, _, _, h, rfl⟩
theorem tR4 {C : Orc} {n : Nat} {us : List U} {a : R4} (h : C n us (uR4 a)) : ∃ s l b e, C n us (.tup [.agg [ub s, .l l, .l b], ui e]) ∧ (s, l, b, e) = a := ⟨_, _, _, _, h, rfl⟩
theorem LR.c1 {a : R3} (h : LR a) : cnt a.2.1 ≤ 100000 := by have := h.lt; unfold cnt; omega
theorem LR.c2 {a : R3} (h : LR a) : cnt a.2.2 ≤ 100000 := by have := h.lb; unfold cnt; omega
def goodR (us : List U) (u : U) : Prop := ∃ a : R3, LB a ∧ us = [uR a] ∧ u = ub (goodB a)
theorem gcd_cmp (n : Nat) : (cmpN n 1 = 0) ↔ n = 1 := by
 unfold cmpN
 split
 ·omega
 ·split <;> omega
theorem good_ok : SoundF Tryz.prog 27 goodR := sound [(46, rat_trimmed.R), (48, quo_Gcd.R), (49, nat_Of.R), (47, nat_Cmp.R)] (orc_cons rat_trimmed.sound (orc_cons quo_Gcd.sound (orc_cons nat_Of.sound (orc_cons nat_Cmp.sound orc_nil)))) Tryz.func27 (by kernel_rfl) (by kernel_rfl) fun us u hR => ⟨0, fun C E hC => by
 obtain ⟨⟨s, l, b⟩, ⟨hl, hb, hsl, hsb⟩, rfl, hu⟩ := hR
 have hl : Limbs l := hl
 have hb : Limbs b := hb
 have k1 := hC 46 rat_trimmed.R (by simp) [.l l] _ ⟨_, _, rfl, trimmed_tells hl hsl, rfl⟩
 have k2 := hC 46 rat_trimmed.R (by simp) [.l b] _ ⟨_, _, rfl, trimmed_tells hb hsb, rfl⟩
 clear hsl hsb
 have g1 := cnt0 l
 have g2 := cnt0 b
 unfold goodB at hu
 dsimp only at hu
 have e1 : (decide (b.length ≠ 0)) = decide (cnt b ≠ 0) := by rw [decide_eq_decide]; unfold cnt; omega
 have e2 : (decide (b.length ≤ 64)) = decide (cnt b ≤ 64) := by rw [decide_eq_decide]; unfold cnt; omega
 have e3 : (decide (l.length ≤ 64)) = decide (cnt l ≤ 64) := by rw [decide_eq_decide]; unfold cnt; omega
 have e4 : (decide (l.length = 0)) = decide (cnt l = 0) := by rw [decide_eq_decide]; unfold cnt; omega
 rw [e1, e2, e3, e4] at hu
 clear e1 e2 e3 e4
 generalize decide (N (V l) = l) = t1 at *
 generalize decide (N (V b) = b) = t2 at *
 cases t1
 ·cbv; (repeat ((first | refine ln fun _ _ _ => ?_ | refine tt ?_ | refine ff ?_ | refine wr fun _ _ => ?_ | refine wu fun _ _ => ?_ | refine rp fun _ _ _ => ?_ | refine cp fun _ => ?_ | with_reducible refine bq ?_ | refine cl ?_ | refine sd ?_ | intro _ _); cbv)); rw [hu]; rfl
 cases t2
 ·cbv; (repeat ((first | refine ln fun _ _ _ => ?_ | refine tt ?_ | refine ff ?_ | refine wr fun _ _ => ?_ | refine wu fun _ _ => ?_ | refine rp fun _ _ _ => ?_ | refine cp fun _ => ?_ | with_reducible refine bq ?_ | refine cl ?_ | refine sd ?_ | intro _ _); cbv)); rw [hu]; rfl
 by_cases h3 : cnt b = 0
 ·cbv; (repeat ((first | refine ln fun _ _ _ => ?_ | refine tt ?_ | refine ff ?_ | refine wr fun _ _ => ?_ | refine wu fun _ _ => ?_ | refine rp fun _ _ _ => ?_ | refine cp fun _ => ?_ | with_reducible refine bq ?_ | refine cl ?_ | refine sd ?_ | intro _ _); cbv)); rw [hu]; simp [h3]
 by_cases h4 : cnt b ≤ 64
 case neg => cbv; (repeat ((first | refine ln fun _ _ _ => ?_ | refine tt ?_ | refine ff ?_ | refine wr fun _ _ => ?_ | refine wu fun _ _ => ?_ | refine rp fun _ _ _ => ?_ | refine cp fun _ => ?_ | with_reducible refine bq ?_ | refine cl ?_ | refine sd ?_ | intro _ _); cbv)); rw [hu]; simp [h4]
 by_cases h5 : cnt l ≤ 64
 case neg => cbv; (repeat ((first | refine ln fun _ _ _ => ?_ | refine tt ?_ | refine ff ?_ | refine wr fun _ _ => ?_ | refine wu fun _ _ => ?_ | refine rp fun _ _ _ => ?_ | refine cp fun _ => ?_ | with_reducible refine bq ?_ | refine cl ?_ | refine sd ?_ | intro _ _); cbv)); rw [hu]; simp [h5]
 have k3 := hC 48 quo_Gcd.R (by simp) _ _ (gcdR hl hb (by omega) (by omega))
 have k4 := hC 49 nat_Of.R (by simp) _ _ (nofR 1 (by omega))
 have hg : len (Nat.gcd (V l) (V b)) ≤ 64 := by
  have a1 := lenV hl
  have a2 := lenV hb
  by_cases h : V b = 0
  ·rw [h, Nat.gcd_zero_right]; omega
  ·have := len_mono (Nat.gcd_le_right (V l) (n := V b) (by omega)); omega
 have h11 : len 1 ≤ 1 := len_le.2 (by omega)
 have k5 := hC 47 nat_Cmp.R (by simp) _ _ (ncmpR (N_limbs (Nat.gcd (V l) (V b))) (N_limbs 1) (by rw [cnt_N]; omega) (by rw [cnt_N]; omega))
 rw [V_N, V_N] at k5
 have hc := gcd_cmp (Nat.gcd (V l) (V b))
 generalize hd : cmpN (Nat.gcd (V l) (V b)) 1 = d at *
 rw [show decide (Nat.gcd (V l) (V b) = 1) = decide (d = 0) by rw [decide_eq_decide]; exact hc.symm] at hu
 clear hc hd hg
 generalize N (Nat.gcd (V l) (V b)) = l3 at *
 generalize N 1 = l4 at *
 have fin : ∀ t : Bool, (t = true ↔ d = 0) → decide (d = 0) = t := fun t ht => by cases t <;> simp at ht ⊢ <;> exact ht
 cases s
 ·by_cases hd : d = 0 <;> cbv <;> (repeat ((first | refine ln fun _ _ _ => ?_ | refine tt ?_ | refine ff ?_ | refine wr fun _ _ => ?_ | refine wu fun _ _ => ?_ | refine rp fun _ _ _ => ?_ | refine cp fun _ => ?_ | with_reducible refine bq ?_ | refine cl ?_ | refine sd ?_ | intro _ _); cbv)) <;> (rw [hu]; simp [h3, h4, h5, hd])
 ·by_cases h6 : cnt l = 0
  ·cbv; (repeat ((first | refine ln fun _ _ _ => ?_ | refine tt ?_ | refine ff ?_ | refine wr fun _ _ => ?_ | refine wu fun _ _ => ?_ | refine rp fun _ _ _ => ?_ | refine cp fun _ => ?_ | with_reducible refine bq ?_ | refine cl ?_ | refine sd ?_ | intro _ _); cbv)); rw [hu]; simp [h6]
  ·by_cases hd : d = 0 <;> cbv <;> (repeat ((first | refine ln fun _ _ _ => ?_ | refine tt ?_ | refine ff ?_ | refine wr fun _ _ => ?_ | refine wu fun _ _ => ?_ | refine rp fun _ _ _ => ?_ | refine cp fun _ => ?_ | with_reducible refine bq ?_ | refine cl ?_ | refine sd ?_ | intro _ _); cbv)) <;> (rw [hu]; simp [h3, h4, h5, h6, hd])⟩
def keepFrom (L : List Nat) : Nat → List U → List U
 | _, [] => []
 | i, u :: us => (if L.contains i then u else .lost) :: keepFrom L (i + 1) us
def keepT (L : List Nat) (a : List U) : List U := keepFrom L 0 a
def oldT (n : Nat) : U → Bool
 | .lost => true
 | .tup _ => false
 | .agg us => us.all (old1 n)
 | .clo _ us => us.all (old1 n)
 | u => old1 n u
def oldO (n : Nat) : Option Ob → Bool
 | some (.cells us) => us.all (old1 n)
 | _ => true
def okK (n : Nat) (L : List Nat) (a : List U) (h : Heap) : Bool := decide (n ≤ h.length) && (keepT L a).all (oldT n) && (h.take n).all (oldO n)
theorem wkU_old {n : Nat} {js : List Nat} (hj : ∀ i, i < n → js[i]? = some i) {u : U} (h : oldT n u = true) : wkU n js u u := by
 cases u with
 | tup us => cases h
 | lost => trivial
 | agg us => exact ⟨h, rfl⟩
 | clo f us => exact ⟨h, rfl⟩
 | ptr id off => exact ⟨id, hj _ (by simpa [oldT, old1] using h), rfl⟩
 | pe id k i off => exact ⟨id, hj _ (by simpa [oldT, old1] using h), rfl⟩
 | sl id l c k => exact ⟨id, hj _ (by simpa [oldT, old1] using h), rfl⟩
 | _ => rfl
theorem wkA_keep {n : Nat} {js : List Nat} (hj : ∀ i, i < n → js[i]? = some i) (L : List Nat) : ∀ (a : List U) (i : Nat), (keepFrom L i a).all (oldT n) = true → wkA n js a (keepFrom L i a)
 | [], _, _ => trivial
 | u :: us, i, h => by
  unfold keepFrom at h ⊢
  rw [List.all_cons, Bool.and_eq_true] at h
  refine ⟨?_, wkA_keep hj L us (i + 1) h.2⟩
  split
  ·rename_i hc
   rw [if_pos hc] at h
   exact wkU_old hj h.1
  ·trivial
theorem wkH_take {n : Nat} {h : Heap} : ∀ (m : Nat) (h1 h2 : Heap), h = h1 ++ h2 → n = h1.length + m → m ≤ h2.length → (h2.take m).all (oldO n) = true → wkH n h ((List.range' h1.length m)) (h2.take m)
 | 0, _, _, _, _, _, _ => by simp [wkH]
 | m + 1, h1, [], _, _, hl, _ => by simp at hl
 | m + 1, h1, o :: h2, e, en, hl, ho => by
  rw [List.take_succ_cons, List.all_cons, Bool.and_eq_true] at ho
  rw [List.take_succ_cons, List.range'_succ]
  refine ⟨?_, ?_⟩
  ·cases o with
   | none => trivial
   | some ob =>
    refine ⟨?_, by unfold heapAt; rw [e]; simp⟩
    cases ob <;> first | exact ho.1 | rfl
  ·have := wkH_take (n := n) (h := h) m (h1 ++ [o]) h2 (by rw [e]; simp) (by simp; omega) (by simpa using hl) ho.2
   simpa using this
theorem lets {n : Nat} {a : List U} {h : Heap} {k : List U → Heap → Prop} (L : List Nat) (hk : k (keepT L a) (h.take n)) (hc : okK n L a h = true := by rfl) : weak n a h k := by
 unfold okK at hc
 simp only [Bool.and_eq_true, decide_eq_true_eq] at hc
 obtain ⟨⟨h1, h2⟩, h3⟩ := hc
 refine ⟨⟨[], _, _, ⟨?_, ?_, ?_⟩, hk⟩⟩
 ·unfold keeps
  simp [h1, List.nodup_range]
 ·rw [List.append_nil]
  exact wkA_keep (fun i hi => by simp [hi]) L a 0 h2
 ·rw [List.append_nil, List.range_eq_range']
  exact wkH_take n [] h rfl (by simp) h1 h3
theorem ents_nil : ∀ f fn, look2 f ([] : List (Nat × Func)) = some fn → Tryz.prog.funcs[f]? = some fn ∧ (fn.name == "runtime.NumGoroutine") = false ∧ fn.body.isSome = true := fun _ _ h => by cases h
theorem ents_cons {g : Nat} {gn : Func} {l : List (Nat × Func)} (h1 : Tryz.prog.funcs[g]? = some gn) (h2 : (gn.name == "runtime.NumGoroutine") = false) (h3 : gn.body.isSome = true) (hl : ∀ f fn, look2 f l = some fn → Tryz.prog.funcs[f]? = some fn ∧ (fn.name == "runtime.NumGoroutine") = false ∧ fn.body.isSome = true) :
  ∀ f fn, look2 f ((g, gn) :: l) = some fn → Tryz.prog.funcs[f]? = some fn ∧ (fn.name == "runtime.NumGoroutine") = false ∧ fn.body.isSome = true := fun f fn h => by
 unfold look2 at h
 split at h
 ·rename_i e
  injection h with h
  subst e h
  exact ⟨h1, h2, h3⟩
 ·exact hl f fn h
theorem nd_of {l : List (Nat × Func)} (h : (l.map (·.1)).Nodup) : ∀ f fn, (f, fn) ∈ l → look2 f l = some fn := by
 induction l with
 | nil => intro f fn h; cases h
 | cons x l ih =>
  obtain ⟨g, gn⟩ := x
  intro f fn hm
  rw [List.map_cons, List.nodup_cons] at h
  unfold look2
  rcases List.mem_cons.1 hm with e | hm
  ·injection e with e1 e2
   subst e1 e2
   rw [if_pos rfl]
  ·have : g ≠ f := fun e => h.1 (List.mem_map.2 ⟨(f, fn), hm, e.symm⟩)
   rw [if_neg this]
   exact ih h.2 f fn hm
structure Tm where
 k : Int
 a : Int
 b : Int
 n : Int
 q : R3
def qU (q : R3) : List U := [ub q.1, .l q.2.1, .l q.2.2]
def tU (t : Tm) : List U := [ui t.k, ui t.a, ui t.b, ui t.n, ub t.q.1, .l t.q.2.1, .l t.q.2.2]
def cU (c : List Tm) : U := .s 7 (c.map tU)
def qsU (qs : List R3) : U := .s 3 (qs.map qU)
def kid (x i : Int) : Bool := decide (0 ≤ x) && decide (x < i)
def noneB (s : Bool) (l b : List Int) : Bool := !s && decide (cnt l = 0) && decide (cnt b = 0)
def termOk (t : Tm) (i : Int) : Bool :=
 if t.k = 1 then decide (t.a = 0 ∧ t.b = 0 ∧ t.n = 0) && goodB t.q
 else noneB t.q.1 t.q.2.1 t.q.2.2 && (
  if t.k = 2 then decide (t.a = 0 ∧ t.b = 0) && decide (0 ≤ t.n)
  else if t.k = 7 then decide (t.b = 0 ∧ t.n = 0) && kid t.a i
  else if t.k = 8 then decide (t.b = 0) && kid t.a i && decide (-128 ≤ t.n) && decide (t.n ≤ 128)
  else if t.k = 3 ∨ t.k = 4 ∨ t.k = 5 ∨ t.k = 6 then decide (t.n = 0) && kid t.a i && kid t.b i
  else false)
def noneR (us : List U) (u : U) : Prop := ∃ s l b, us = [.agg [ub s, .l l, .l b]] ∧ u = ub (noneB s l b)
theorem none_ok : SoundF Tryz.prog 96 noneR := sound [] orc_nil Tryz.func96 (by kernel_rfl) (by kernel_rfl) fun us u hR => ⟨0, fun C E hC => by
 obtain ⟨s, l, b, rfl, hu⟩ := hR
 unfold noneB at hu
 cases s
 ·by_cases h1 : cnt l = 0
  ·by_cases h2 : cnt b = 0 <;> cbv <;> (repeat ((first | refine ln fun _ _ _ => ?_ | refine tt ?_ | refine ff ?_ | refine wr fun _ _ => ?_ | refine rp fun _ _ _ => ?_ | with_reducible refine bq ?_ | refine cl ?_ | refine sd ?_ | refine tt ?_ (by refine ⟨?_, ?_, ?_, ?_, ?_⟩ <;> first | omega | exact True.intro) | refine tt ?_ (by refine ⟨?_, ?_, ?_, ?_⟩ <;> first | omega | exact True.intro) | refine tt ?_ (by refine ⟨?_, ?_, ?_⟩ <;> first | omega | exact True.intro) | refine ff ?_ (by rintro ⟨_, _, _, _, _⟩; omega) | refine ff ?_ (by rintro ⟨_, _, _, _⟩; omega) | refine ff ?_ (by rintro ⟨_, _, _⟩; omega) | intro _ _); cbv)) <;> (rw [hu]; simp [h1, h2])
  ·cbv; (repeat ((first | refine ln fun _ _ _ => ?_ | refine tt ?_ | refine ff ?_ | refine wr fun _ _ => ?_ | refine rp fun _ _ _ => ?_ | with_reducible refine bq ?_ | refine cl ?_ | refine sd ?_ | refine tt ?_ (by refine ⟨?_, ?_, ?_, ?_, ?_⟩ <;> first | omega | exact True.intro) | refine tt ?_ (by refine ⟨?_, ?_, ?_, ?_⟩ <;> first | omega | exact True.intro) | refine tt ?_ (by refine ⟨?_, ?_, ?_⟩ <;> first | omega | exact True.intro) | refine ff ?_ (by rintro ⟨_, _, _, _, _⟩; omega) | refine ff ?_ (by rintro ⟨_, _, _, _⟩; omega) | refine ff ?_ (by rintro ⟨_, _, _⟩; omega) | intro _ _); cbv)); rw [hu]; simp [h1]
 ·cbv; (repeat ((first | refine ln fun _ _ _ => ?_ | refine tt ?_ | refine ff ?_ | refine wr fun _ _ => ?_ | refine rp fun _ _ _ => ?_ | with_reducible refine bq ?_ | refine cl ?_ | refine sd ?_ | refine tt ?_ (by refine ⟨?_, ?_, ?_, ?_, ?_⟩ <;> first | omega | exact True.intro) | refine tt ?_ (by refine ⟨?_, ?_, ?_, ?_⟩ <;> first | omega | exact True.intro) | refine tt ?_ (by refine ⟨?_, ?_, ?_⟩ <;> first | omega | exact True.intro) | refine ff ?_ (by rintro ⟨_, _, _, _, _⟩; omega) | refine ff ?_ (by rintro ⟨_, _, _, _⟩; omega) | refine ff ?_ (by rintro ⟨_, _, _⟩; omega) | intro _ _); cbv)); rw [hu]; simp⟩
theorem kin {C : Orc} {E E' : Ent} (hE : Enters 0 [95] C [(95, Tryz.f95)] E E') {x i : Int} {b : Bool} (hb : kid x i = b) {o : Option Ob} {h : Heap} {k : U → Heap → Prop} (hk : k (ub b) (o :: some (.cells [ui i]) :: h)) :
  E' 95 [ui x, .ptr 1 0] (o :: some (.cells [ui i]) :: h) k := by
 refine hE _ _ (List.mem_singleton.2 rfl) _ _ _ ?_
 unfold kid at hb
 by_cases h1 : 0 ≤ x
 ·by_cases h2 : x < i
  ·have : b = true := by rw [← hb]; simp [h1, h2]
   subst this
   cbv; (repeat ((first | refine ln fun _ _ _ => ?_ | refine tt ?_ | refine ff ?_ | refine wr fun _ _ => ?_ | refine rp fun _ _ _ => ?_ | with_reducible refine bq ?_ | refine cl ?_ | refine sd ?_ | refine tt ?_ (by refine ⟨?_, ?_, ?_, ?_, ?_⟩ <;> first | omega | exact True.intro) | refine tt ?_ (by refine ⟨?_, ?_, ?_, ?_⟩ <;> first | omega | exact True.intro) | refine tt ?_ (by refine ⟨?_, ?_, ?_⟩ <;> first | omega | exact True.intro) | refine ff ?_ (by rintro ⟨_, _, _, _, _⟩; omega) | refine ff ?_ (by rintro ⟨_, _, _, _⟩; omega) | refine ff ?_ (by rintro ⟨_, _, _⟩; omega) | intro _ _); cbv)); exact hk
  ·have : b = false := by rw [← hb]; simp [h2]
   subst this
   cbv; (repeat ((first | refine ln fun _ _ _ => ?_ | refine tt ?_ | refine ff ?_ | refine wr fun _ _ => ?_ | refine rp fun _ _ _ => ?_ | with_reducible refine bq ?_ | refine cl ?_ | refine sd ?_ | refine tt ?_ (by refine ⟨?_, ?_, ?_, ?_, ?_⟩ <;> first | omega | exact True.intro) | refine tt ?_ (by refine ⟨?_, ?_, ?_, ?_⟩ <;> first | omega | exact True.intro) | refine tt ?_ (by refine ⟨?_, ?_, ?_⟩ <;> first | omega | exact True.intro) | refine ff ?_ (by rintro ⟨_, _, _, _, _⟩; omega) | refine ff ?_ (by rintro ⟨_, _, _, _⟩; omega) | refine ff ?_ (by rintro ⟨_, _, _⟩; omega) | intro _ _); cbv)); exact hk
 ·have : b = false := by rw [← hb]; simp [h1]
  subst this
  cbv; (repeat ((first | refine ln fun _ _ _ => ?_ | refine tt ?_ | refine ff ?_ | refine wr fun _ _ => ?_ | refine rp fun _ _ _ => ?_ | with_reducible refine bq ?_ | refine cl ?_ | refine sd ?_ | refine tt ?_ (by refine ⟨?_, ?_, ?_, ?_, ?_⟩ <;> first | omega | exact True.intro) | refine tt ?_ (by refine ⟨?_, ?_, ?_, ?_⟩ <;> first | omega | exact True.intro) | refine tt ?_ (by refine ⟨?_, ?_, ?_⟩ <;> first | omega | exact True.intro) | refine ff ?_ (by rintro ⟨_, _, _, _, _⟩; omega) | refine ff ?_ (by rintro ⟨_, _, _, _⟩; omega) | refine ff ?_ (by rintro ⟨_, _, _⟩; omega) | intro _ _); cbv)); exact hk
def tgoodR (us : List U) (u : U) : Prop := ∃ t i, LB t.q ∧ us = [.agg (tU t), ui i] ∧ u = ub (termOk t i)
theorem tgood_ok : SoundF Tryz.prog 66 tgoodR := sound3 [(27, goodR), (96, noneR)] [(95, Tryz.f95)] (orc_cons good_ok (orc_cons none_ok orc_nil)) (ents_cons Tryz.func95 (by kernel_rfl) (by kernel_rfl) ents_nil) (nd_of (by simp)) Tryz.func66 (by kernel_rfl) (by kernel_rfl) fun us u hR => ⟨0, fun C E0 E1 E2 E hC hE1 hE2 hE => by
 obtain ⟨⟨k, a, b, n, s, l, d⟩, i, hq, rfl, hu⟩ := hR
 have k1 := hC 27 goodR (by simp) _ _ ⟨_, hq, rfl, rfl⟩
 have k2 := hC 96 noneR (by simp) _ _ ⟨s, l, d, rfl, rfl⟩
 clear hq hE1 hE2
 have hE : Enters 0 [95] C [(95, Tryz.f95)] E2 E := hE
 unfold termOk at hu
 dsimp only at hu k1
 generalize goodB (s, l, d) = g at hu k1
 generalize noneB s l d = w at hu k2
 cbv
 rcases Decidable.em (k = 1) with h1 | h1
 ·rw [if_pos h1] at hu
  rcases Decidable.em (a = 0 ∧ b = 0 ∧ n = 0) with h2 | h2
  ·rw [decide_eq_true h2, Bool.true_and] at hu
   (repeat ((first | refine ln fun _ _ _ => ?_ | refine tt ?_ | refine ff ?_ | refine wr fun _ _ => ?_ | refine rp fun _ _ _ => ?_ | with_reducible refine bq ?_ | refine cl ?_ | refine sd ?_ | refine tt ?_ (by refine ⟨?_, ?_, ?_, ?_, ?_⟩ <;> first | omega | exact True.intro) | refine tt ?_ (by refine ⟨?_, ?_, ?_, ?_⟩ <;> first | omega | exact True.intro) | refine tt ?_ (by refine ⟨?_, ?_, ?_⟩ <;> first | omega | exact True.intro) | refine ff ?_ (by rintro ⟨_, _, _, _, _⟩; omega) | refine ff ?_ (by rintro ⟨_, _, _, _⟩; omega) | refine ff ?_ (by rintro ⟨_, _, _⟩; omega) | intro _ _); cbv)); exact hu.symm
  ·rw [decide_eq_false h2, Bool.false_and] at hu
   (repeat ((first | refine ln fun _ _ _ => ?_ | refine tt ?_ | refine ff ?_ | refine wr fun _ _ => ?_ | refine rp fun _ _ _ => ?_ | with_reducible refine bq ?_ | refine cl ?_ | refine sd ?_ | refine tt ?_ (by refine ⟨?_, ?_, ?_, ?_, ?_⟩ <;> first | omega | exact True.intro) | refine tt ?_ (by refine ⟨?_, ?_, ?_, ?_⟩ <;> first | omega | exact True.intro) | refine tt ?_ (by refine ⟨?_, ?_, ?_⟩ <;> first | omega | exact True.intro) | refine ff ?_ (by rintro ⟨_, _, _, _, _⟩; omega) | refine ff ?_ (by rintro ⟨_, _, _, _⟩; omega) | refine ff ?_ (by rintro ⟨_, _, _⟩; omega) | intro _ _); cbv)); exact hu.symm
 rw [if_neg h1] at hu
 cases w
 ·rw [Bool.false_and] at hu
  (repeat ((first | refine ln fun _ _ _ => ?_ | refine tt ?_ | refine ff ?_ | refine wr fun _ _ => ?_ | refine rp fun _ _ _ => ?_ | with_reducible refine bq ?_ | refine cl ?_ | refine sd ?_ | refine tt ?_ (by refine ⟨?_, ?_, ?_, ?_, ?_⟩ <;> first | omega | exact True.intro) | refine tt ?_ (by refine ⟨?_, ?_, ?_, ?_⟩ <;> first | omega | exact True.intro) | refine tt ?_ (by refine ⟨?_, ?_, ?_⟩ <;> first | omega | exact True.intro) | refine ff ?_ (by rintro ⟨_, _, _, _, _⟩; omega) | refine ff ?_ (by rintro ⟨_, _, _, _⟩; omega) | refine ff ?_ (by rintro ⟨_, _, _⟩; omega) | intro _ _); cbv)); exact hu.symm
 rw [Bool.true_and] at hu
 rcases Decidable.em (k = 2) with h2 | h2
 ·rw [if_pos h2] at hu
  rcases Decidable.em (a = 0 ∧ b = 0) with h3 | h3
  ·rcases Decidable.em (0 ≤ n) with h4 | h4
   ·rw [decide_eq_true h3, decide_eq_true h4] at hu
    (repeat ((first | refine ln fun _ _ _ => ?_ | refine tt ?_ | refine ff ?_ | refine wr fun _ _ => ?_ | refine rp fun _ _ _ => ?_ | with_reducible refine bq ?_ | refine cl ?_ | refine sd ?_ | refine tt ?_ (by refine ⟨?_, ?_, ?_, ?_, ?_⟩ <;> first | omega | exact True.intro) | refine tt ?_ (by refine ⟨?_, ?_, ?_, ?_⟩ <;> first | omega | exact True.intro) | refine tt ?_ (by refine ⟨?_, ?_, ?_⟩ <;> first | omega | exact True.intro) | refine ff ?_ (by rintro ⟨_, _, _, _, _⟩; omega) | refine ff ?_ (by rintro ⟨_, _, _, _⟩; omega) | refine ff ?_ (by rintro ⟨_, _, _⟩; omega) | intro _ _); cbv)); exact hu.symm
   ·rw [decide_eq_true h3, decide_eq_false h4] at hu
    (repeat ((first | refine ln fun _ _ _ => ?_ | refine tt ?_ | refine ff ?_ | refine wr fun _ _ => ?_ | refine rp fun _ _ _ => ?_ | with_reducible refine bq ?_ | refine cl ?_ | refine sd ?_ | refine tt ?_ (by refine ⟨?_, ?_, ?_, ?_, ?_⟩ <;> first | omega | exact True.intro) | refine tt ?_ (by refine ⟨?_, ?_, ?_, ?_⟩ <;> first | omega | exact True.intro) | refine tt ?_ (by refine ⟨?_, ?_, ?_⟩ <;> first | omega | exact True.intro) | refine ff ?_ (by rintro ⟨_, _, _, _, _⟩; omega) | refine ff ?_ (by rintro ⟨_, _, _, _⟩; omega) | refine ff ?_ (by rintro ⟨_, _, _⟩; omega) | intro _ _); cbv)); exact hu.symm
  ·rw [decide_eq_false h3, Bool.false_and] at hu
   (repeat ((first | refine ln fun _ _ _ => ?_ | refine tt ?_ | refine ff ?_ | refine wr fun _ _ => ?_ | refine rp fun _ _ _ => ?_ | with_reducible refine bq ?_ | refine cl ?_ | refine sd ?_ | refine tt ?_ (by refine ⟨?_, ?_, ?_, ?_, ?_⟩ <;> first | omega | exact True.intro) | refine tt ?_ (by refine ⟨?_, ?_, ?_, ?_⟩ <;> first | omega | exact True.intro) | refine tt ?_ (by refine ⟨?_, ?_, ?_⟩ <;> first | omega | exact True.intro) | refine ff ?_ (by rintro ⟨_, _, _, _, _⟩; omega) | refine ff ?_ (by rintro ⟨_, _, _, _⟩; omega) | refine ff ?_ (by rintro ⟨_, _, _⟩; omega) | intro _ _); cbv)); exact hu.symm
 rw [if_neg h2] at hu
 generalize ha : kid a i = ka at hu
 generalize hb : kid b i = kb at hu
 rcases Decidable.em (k = 7) with h7 | h7
 ·rw [if_pos h7] at hu
  rcases Decidable.em (b = 0 ∧ n = 0) with h3 | h3
  ·rw [decide_eq_true h3, Bool.true_and] at hu
   (repeat ((first | refine ln fun _ _ _ => ?_ | refine tt ?_ | refine ff ?_ | refine wr fun _ _ => ?_ | refine rp fun _ _ _ => ?_ | with_reducible refine bq ?_ | refine cl ?_ | refine sd ?_ | refine tt ?_ (by refine ⟨?_, ?_, ?_, ?_, ?_⟩ <;> first | omega | exact True.intro) | refine tt ?_ (by refine ⟨?_, ?_, ?_, ?_⟩ <;> first | omega | exact True.intro) | refine tt ?_ (by refine ⟨?_, ?_, ?_⟩ <;> first | omega | exact True.intro) | refine ff ?_ (by rintro ⟨_, _, _, _, _⟩; omega) | refine ff ?_ (by rintro ⟨_, _, _, _⟩; omega) | refine ff ?_ (by rintro ⟨_, _, _⟩; omega) | intro _ _); cbv)); refine kin hE ha ?_; cbv; (repeat ((first | refine ln fun _ _ _ => ?_ | refine tt ?_ | refine ff ?_ | refine wr fun _ _ => ?_ | refine rp fun _ _ _ => ?_ | with_reducible refine bq ?_ | refine cl ?_ | refine sd ?_ | refine tt ?_ (by refine ⟨?_, ?_, ?_, ?_, ?_⟩ <;> first | omega | exact True.intro) | refine tt ?_ (by refine ⟨?_, ?_, ?_, ?_⟩ <;> first | omega | exact True.intro) | refine tt ?_ (by refine ⟨?_, ?_, ?_⟩ <;> first | omega | exact True.intro) | refine ff ?_ (by rintro ⟨_, _, _, _, _⟩; omega) | refine ff ?_ (by rintro ⟨_, _, _, _⟩; omega) | refine ff ?_ (by rintro ⟨_, _, _⟩; omega) | intro _ _); cbv)); exact hu.symm
  ·rw [decide_eq_false h3, Bool.false_and] at hu
   (repeat ((first | refine ln fun _ _ _ => ?_ | refine tt ?_ | refine ff ?_ | refine wr fun _ _ => ?_ | refine rp fun _ _ _ => ?_ | with_reducible refine bq ?_ | refine cl ?_ | refine sd ?_ | refine tt ?_ (by refine ⟨?_, ?_, ?_, ?_, ?_⟩ <;> first | omega | exact True.intro) | refine tt ?_ (by refine ⟨?_, ?_, ?_, ?_⟩ <;> first | omega | exact True.intro) | refine tt ?_ (by refine ⟨?_, ?_, ?_⟩ <;> first | omega | exact True.intro) | refine ff ?_ (by rintro ⟨_, _, _, _, _⟩; omega) | refine ff ?_ (by rintro ⟨_, _, _, _⟩; omega) | refine ff ?_ (by rintro ⟨_, _, _⟩; omega) | intro _ _); cbv)); exact hu.symm
 rw [if_neg h7] at hu
 rcases Decidable.em (k = 8) with h8 | h8
 ·rw [if_pos h8] at hu
  rcases Decidable.em (b = 0) with h3 | h3
  ·rw [decide_eq_true h3, Bool.true_and] at hu
   cases ka
   ·rw [Bool.false_and, Bool.false_and] at hu
    (repeat ((first | refine ln fun _ _ _ => ?_ | refine tt ?_ | refine ff ?_ | refine wr fun _ _ => ?_ | refine rp fun _ _ _ => ?_ | with_reducible refine bq ?_ | refine cl ?_ | refine sd ?_ | refine tt ?_ (by refine ⟨?_, ?_, ?_, ?_, ?_⟩ <;> first | omega | exact True.intro) | refine tt ?_ (by refine ⟨?_, ?_, ?_, ?_⟩ <;> first | omega | exact True.intro) | refine tt ?_ (by refine ⟨?_, ?_, ?_⟩ <;> first | omega | exact True.intro) | refine ff ?_ (by rintro ⟨_, _, _, _, _⟩; omega) | refine ff ?_ (by rintro ⟨_, _, _, _⟩; omega) | refine ff ?_ (by rintro ⟨_, _, _⟩; omega) | intro _ _); cbv)); refine kin hE ha ?_; cbv; (repeat ((first | refine ln fun _ _ _ => ?_ | refine tt ?_ | refine ff ?_ | refine wr fun _ _ => ?_ | refine rp fun _ _ _ => ?_ | with_reducible refine bq ?_ | refine cl ?_ | refine sd ?_ | refine tt ?_ (by refine ⟨?_, ?_, ?_, ?_, ?_⟩ <;> first | omega | exact True.intro) | refine tt ?_ (by refine ⟨?_, ?_, ?_, ?_⟩ <;> first | omega | exact True.intro) | refine tt ?_ (by refine ⟨?_, ?_, ?_⟩ <;> first | omega | exact True.intro) | refine ff ?_ (by rintro ⟨_, _, _, _, _⟩; omega) | refine ff ?_ (by rintro ⟨_, _, _, _⟩; omega) | refine ff ?_ (by rintro ⟨_, _, _⟩; omega) | intro _ _); cbv)); exact hu.symm
   ·rcases Decidable.em (-128 ≤ n) with h4 | h4
    ·rcases Decidable.em (n ≤ 128) with h5 | h5
     ·rw [decide_eq_true h4, decide_eq_true h5] at hu
      (repeat ((first | refine ln fun _ _ _ => ?_ | refine tt ?_ | refine ff ?_ | refine wr fun _ _ => ?_ | refine rp fun _ _ _ => ?_ | with_reducible refine bq ?_ | refine cl ?_ | refine sd ?_ | refine tt ?_ (by refine ⟨?_, ?_, ?_, ?_, ?_⟩ <;> first | omega | exact True.intro) | refine tt ?_ (by refine ⟨?_, ?_, ?_, ?_⟩ <;> first | omega | exact True.intro) | refine tt ?_ (by refine ⟨?_, ?_, ?_⟩ <;> first | omega | exact True.intro) | refine ff ?_ (by rintro ⟨_, _, _, _, _⟩; omega) | refine ff ?_ (by rintro ⟨_, _, _, _⟩; omega) | refine ff ?_ (by rintro ⟨_, _, _⟩; omega) | intro _ _); cbv)); refine kin hE ha ?_; cbv; (repeat ((first | refine ln fun _ _ _ => ?_ | refine tt ?_ | refine ff ?_ | refine wr fun _ _ => ?_ | refine rp fun _ _ _ => ?_ | with_reducible refine bq ?_ | refine cl ?_ | refine sd ?_ | refine tt ?_ (by refine ⟨?_, ?_, ?_, ?_, ?_⟩ <;> first | omega | exact True.intro) | refine tt ?_ (by refine ⟨?_, ?_, ?_, ?_⟩ <;> first | omega | exact True.intro) | refine tt ?_ (by refine ⟨?_, ?_, ?_⟩ <;> first | omega | exact True.intro) | refine ff ?_ (by rintro ⟨_, _, _, _, _⟩; omega) | refine ff ?_ (by rintro ⟨_, _, _, _⟩; omega) | refine ff ?_ (by rintro ⟨_, _, _⟩; omega) | intro _ _); cbv)); exact hu.symm
     ·rw [decide_eq_true h4, decide_eq_false h5] at hu
      (repeat ((first | refine ln fun _ _ _ => ?_ | refine tt ?_ | refine ff ?_ | refine wr fun _ _ => ?_ | refine rp fun _ _ _ => ?_ | with_reducible refine bq ?_ | refine cl ?_ | refine sd ?_ | refine tt ?_ (by refine ⟨?_, ?_, ?_, ?_, ?_⟩ <;> first | omega | exact True.intro) | refine tt ?_ (by refine ⟨?_, ?_, ?_, ?_⟩ <;> first | omega | exact True.intro) | refine tt ?_ (by refine ⟨?_, ?_, ?_⟩ <;> first | omega | exact True.intro) | refine ff ?_ (by rintro ⟨_, _, _, _, _⟩; omega) | refine ff ?_ (by rintro ⟨_, _, _, _⟩; omega) | refine ff ?_ (by rintro ⟨_, _, _⟩; omega) | intro _ _); cbv)); refine kin hE ha ?_; cbv; (repeat ((first | refine ln fun _ _ _ => ?_ | refine tt ?_ | refine ff ?_ | refine wr fun _ _ => ?_ | refine rp fun _ _ _ => ?_ | with_reducible refine bq ?_ | refine cl ?_ | refine sd ?_ | refine tt ?_ (by refine ⟨?_, ?_, ?_, ?_, ?_⟩ <;> first | omega | exact True.intro) | refine tt ?_ (by refine ⟨?_, ?_, ?_, ?_⟩ <;> first | omega | exact True.intro) | refine tt ?_ (by refine ⟨?_, ?_, ?_⟩ <;> first | omega | exact True.intro) | refine ff ?_ (by rintro ⟨_, _, _, _, _⟩; omega) | refine ff ?_ (by rintro ⟨_, _, _, _⟩; omega) | refine ff ?_ (by rintro ⟨_, _, _⟩; omega) | intro _ _); cbv)); exact hu.symm
    ·rw [decide_eq_false h4, Bool.true_and, Bool.false_and] at hu
     (repeat ((first | refine ln fun _ _ _ => ?_ | refine tt ?_ | refine ff ?_ | refine wr fun _ _ => ?_ | refine rp fun _ _ _ => ?_ | with_reducible refine bq ?_ | refine cl ?_ | refine sd ?_ | refine tt ?_ (by refine ⟨?_, ?_, ?_, ?_, ?_⟩ <;> first | omega | exact True.intro) | refine tt ?_ (by refine ⟨?_, ?_, ?_, ?_⟩ <;> first | omega | exact True.intro) | refine tt ?_ (by refine ⟨?_, ?_, ?_⟩ <;> first | omega | exact True.intro) | refine ff ?_ (by rintro ⟨_, _, _, _, _⟩; omega) | refine ff ?_ (by rintro ⟨_, _, _, _⟩; omega) | refine ff ?_ (by rintro ⟨_, _, _⟩; omega) | intro _ _); cbv)); refine kin hE ha ?_; cbv; (repeat ((first | refine ln fun _ _ _ => ?_ | refine tt ?_ | refine ff ?_ | refine wr fun _ _ => ?_ | refine rp fun _ _ _ => ?_ | with_reducible refine bq ?_ | refine cl ?_ | refine sd ?_ | refine tt ?_ (by refine ⟨?_, ?_, ?_, ?_, ?_⟩ <;> first | omega | exact True.intro) | refine tt ?_ (by refine ⟨?_, ?_, ?_, ?_⟩ <;> first | omega | exact True.intro) | refine tt ?_ (by refine ⟨?_, ?_, ?_⟩ <;> first | omega | exact True.intro) | refine ff ?_ (by rintro ⟨_, _, _, _, _⟩; omega) | refine ff ?_ (by rintro ⟨_, _, _, _⟩; omega) | refine ff ?_ (by rintro ⟨_, _, _⟩; omega) | intro _ _); cbv)); exact hu.symm
  ·rw [decide_eq_false h3, Bool.false_and, Bool.false_and, Bool.false_and] at hu
   (repeat ((first | refine ln fun _ _ _ => ?_ | refine tt ?_ | refine ff ?_ | refine wr fun _ _ => ?_ | refine rp fun _ _ _ => ?_ | with_reducible refine bq ?_ | refine cl ?_ | refine sd ?_ | refine tt ?_ (by refine ⟨?_, ?_, ?_, ?_, ?_⟩ <;> first | omega | exact True.intro) | refine tt ?_ (by refine ⟨?_, ?_, ?_, ?_⟩ <;> first | omega | exact True.intro) | refine tt ?_ (by refine ⟨?_, ?_, ?_⟩ <;> first | omega | exact True.intro) | refine ff ?_ (by rintro ⟨_, _, _, _, _⟩; omega) | refine ff ?_ (by rintro ⟨_, _, _, _⟩; omega) | refine ff ?_ (by rintro ⟨_, _, _⟩; omega) | intro _ _); cbv)); exact hu.symm
 rw [if_neg h8] at hu
 rcases Decidable.em (k = 3 ∨ k = 4 ∨ k = 5 ∨ k = 6) with h9 | h9
 ·rw [if_pos h9] at hu
  rcases Decidable.em (n = 0) with h3 | h3
  ·rw [decide_eq_true h3, Bool.true_and] at hu
   cases ka
   ·rw [Bool.false_and] at hu
    rcases h9 with h9 | h9 | h9 | h9 <;> ((repeat ((first | refine ln fun _ _ _ => ?_ | refine tt ?_ | refine ff ?_ | refine wr fun _ _ => ?_ | refine rp fun _ _ _ => ?_ | with_reducible refine bq ?_ | refine cl ?_ | refine sd ?_ | refine tt ?_ (by refine ⟨?_, ?_, ?_, ?_, ?_⟩ <;> first | omega | exact True.intro) | refine tt ?_ (by refine ⟨?_, ?_, ?_, ?_⟩ <;> first | omega | exact True.intro) | refine tt ?_ (by refine ⟨?_, ?_, ?_⟩ <;> first | omega | exact True.intro) | refine ff ?_ (by rintro ⟨_, _, _, _, _⟩; omega) | refine ff ?_ (by rintro ⟨_, _, _, _⟩; omega) | refine ff ?_ (by rintro ⟨_, _, _⟩; omega) | intro _ _); cbv)); refine kin hE ha ?_; cbv; (repeat ((first | refine ln fun _ _ _ => ?_ | refine tt ?_ | refine ff ?_ | refine wr fun _ _ => ?_ | refine rp fun _ _ _ => ?_ | with_reducible refine bq ?_ | refine cl ?_ | refine sd ?_ | refine tt ?_ (by refine ⟨?_, ?_, ?_, ?_, ?_⟩ <;> first | omega | exact True.intro) | refine tt ?_ (by refine ⟨?_, ?_, ?_, ?_⟩ <;> first | omega | exact True.intro) | refine tt ?_ (by refine ⟨?_, ?_, ?_⟩ <;> first | omega | exact True.intro) | refine ff ?_ (by rintro ⟨_, _, _, _, _⟩; omega) | refine ff ?_ (by rintro ⟨_, _, _, _⟩; omega) | refine ff ?_ (by rintro ⟨_, _, _⟩; omega) | intro _ _); cbv)); exact hu.symm)
   ·rw [Bool.true_and] at hu
    rcases h9 with h9 | h9 | h9 | h9 <;> ((repeat ((first | refine ln fun _ _ _ => ?_ | refine tt ?_ | refine ff ?_ | refine wr fun _ _ => ?_ | refine rp fun _ _ _ => ?_ | with_reducible refine bq ?_ | refine cl ?_ | refine sd ?_ | refine tt ?_ (by refine ⟨?_, ?_, ?_, ?_, ?_⟩ <;> first | omega | exact True.intro) | refine tt ?_ (by refine ⟨?_, ?_, ?_, ?_⟩ <;> first | omega | exact True.intro) | refine tt ?_ (by refine ⟨?_, ?_, ?_⟩ <;> first | omega | exact True.intro) | refine ff ?_ (by rintro ⟨_, _, _, _, _⟩; omega) | refine ff ?_ (by rintro ⟨_, _, _, _⟩; omega) | refine ff ?_ (by rintro ⟨_, _, _⟩; omega) | intro _ _); cbv)); refine kin hE ha ?_; cbv; (repeat ((first | refine ln fun _ _ _ => ?_ | refine tt ?_ | refine ff ?_ | refine wr fun _ _ => ?_ | refine rp fun _ _ _ => ?_ | with_reducible refine bq ?_ | refine cl ?_ | refine sd ?_ | refine tt ?_ (by refine ⟨?_, ?_, ?_, ?_, ?_⟩ <;> first | omega | exact True.intro) | refine tt ?_ (by refine ⟨?_, ?_, ?_, ?_⟩ <;> first | omega | exact True.intro) | refine tt ?_ (by refine ⟨?_, ?_, ?_⟩ <;> first | omega | exact True.intro) | refine ff ?_ (by rintro ⟨_, _, _, _, _⟩; omega) | refine ff ?_ (by rintro ⟨_, _, _, _⟩; omega) | refine ff ?_ (by rintro ⟨_, _, _⟩; omega) | intro _ _); cbv)); refine kin hE hb ?_; cbv; (repeat ((first | refine ln fun _ _ _ => ?_ | refine tt ?_ | refine ff ?_ | refine wr fun _ _ => ?_ | refine rp fun _ _ _ => ?_ | with_reducible refine bq ?_ | refine cl ?_ | refine sd ?_ | refine tt ?_ (by refine ⟨?_, ?_, ?_, ?_, ?_⟩ <;> first | omega | exact True.intro) | refine tt ?_ (by refine ⟨?_, ?_, ?_, ?_⟩ <;> first | omega | exact True.intro) | refine tt ?_ (by refine ⟨?_, ?_, ?_⟩ <;> first | omega | exact True.intro) | refine ff ?_ (by rintro ⟨_, _, _, _, _⟩; omega) | refine ff ?_ (by rintro ⟨_, _, _, _⟩; omega) | refine ff ?_ (by rintro ⟨_, _, _⟩; omega) | intro _ _); cbv)); exact hu.symm)
  ·rw [decide_eq_false h3, Bool.false_and, Bool.false_and] at hu
   rcases h9 with h9 | h9 | h9 | h9 <;> ((repeat ((first | refine ln fun _ _ _ => ?_ | refine tt ?_ | refine ff ?_ | refine wr fun _ _ => ?_ | refine rp fun _ _ _ => ?_ | with_reducible refine bq ?_ | refine cl ?_ | refine sd ?_ | refine tt ?_ (by refine ⟨?_, ?_, ?_, ?_, ?_⟩ <;> first | omega | exact True.intro) | refine tt ?_ (by refine ⟨?_, ?_, ?_, ?_⟩ <;> first | omega | exact True.intro) | refine tt ?_ (by refine ⟨?_, ?_, ?_⟩ <;> first | omega | exact True.intro) | refine ff ?_ (by rintro ⟨_, _, _, _, _⟩; omega) | refine ff ?_ (by rintro ⟨_, _, _, _⟩; omega) | refine ff ?_ (by rintro ⟨_, _, _⟩; omega) | intro _ _); cbv)); exact hu.symm)
 ·rw [if_neg h9] at hu
  (repeat ((first | refine ln fun _ _ _ => ?_ | refine tt ?_ | refine ff ?_ | refine wr fun _ _ => ?_ | refine rp fun _ _ _ => ?_ | with_reducible refine bq ?_ | refine cl ?_ | refine sd ?_ | refine tt ?_ (by refine ⟨?_, ?_, ?_, ?_, ?_⟩ <;> first | omega | exact True.intro) | refine tt ?_ (by refine ⟨?_, ?_, ?_, ?_⟩ <;> first | omega | exact True.intro) | refine tt ?_ (by refine ⟨?_, ?_, ?_⟩ <;> first | omega | exact True.intro) | refine ff ?_ (by rintro ⟨_, _, _, _, _⟩; omega) | refine ff ?_ (by rintro ⟨_, _, _, _⟩; omega) | refine ff ?_ (by rintro ⟨_, _, _⟩; omega) | intro _ _); cbv)); exact hu.symm⟩
def goodC (c : List Tm) : Bool := (List.range c.length).all fun i => match c[i]? with
 | some t => termOk t i
 | none => true
theorem goodC_iff {c : List Tm} : goodC c = true ↔ ∀ (i : Nat) t, c[i]? = some t → termOk t i = true := by
 unfold goodC
 rw [List.all_eq_true]
 constructor
 ·intro h i t ht
  have := h i (List.mem_range.2 (List.getElem?_eq_some_iff.1 ht).1)
  rw [ht] at this
  exact this
 ·intro h i hi
  cases ht : c[i]? with
  | none => rfl
  | some t => exact h i t ht
theorem nth_map {α : Type} {c : List α} (f : α → List U) {i : Int} (h0 : 0 ≤ i) (h1 : i < cnt c) : ∃ t, c[i.toNat]? = some t ∧ (c.map f)[i.toNat]? = some (f t) := by
 unfold cnt at h1
 refine ⟨c[i.toNat]'(by omega), by simp, ?_⟩
 rw [List.getElem?_map, List.getElem?_eq_getElem (by omega)]
 rfl
theorem cnt_map {α : Type} (c : List α) (f : α → List U) : cnt (c.map f) = cnt c := by unfold cnt; rw [List.length_map]
def cgoodR (us : List U) (u : U) : Prop := ∃ c, (∀ t ∈ c, LB t.q) ∧ cnt c ≤ 9223372036854775807 ∧ us = [cU c] ∧ u = ub (goodC c)
theorem cgood_ok : SoundF Tryz.prog 39 cgoodR := sound [(66, tgoodR)] (orc_cons tgood_ok orc_nil) Tryz.func39 (by kernel_rfl) (by kernel_rfl) fun us u hR => by
 obtain ⟨c, hq, hn, rfl, hu⟩ := hR
 obtain ⟨r, hr⟩ : ∃ r, (cnt c).toNat < r := ⟨_, Nat.lt_succ_self _⟩
 refine ⟨r, fun C E hC => ?_⟩
 have kt : ∀ i t, 0 ≤ i → c[i.toNat]? = some t → C 66 [.agg (tU t), ui i] (ub (termOk t i)) := fun i t h0 ht => hC 66 tgoodR (by simp) _ _ ⟨t, i, hq t (List.mem_of_getElem? ht), rfl, rfl⟩
 have hm := fun i (h0 : 0 ≤ i) (h1 : i < cnt c) => nth_map (c := c) tU h0 h1
 have hc := cnt_map c tU
 have hc0 := cnt0 c
 unfold cU
 generalize c.map tU = xs at *
 cbv
 (repeat ((first | refine ln fun _ _ _ => ?_ | refine tt ?_ | refine ff ?_ | refine wr fun _ _ => ?_ | refine rp fun _ _ _ => ?_ | with_reducible refine bq ?_ | refine cl ?_ | refine sd ?_ | intro _ _); cbv))
 rename_i n hn1 hn0
 refine lets [0, 2, 5, 6, 7] ?_
 cbv
 refine loop_inv (fun j a h => ∃ i : Int, 0 ≤ i ∧ i ≤ cnt c ∧ j = (cnt c - i).toNat ∧ (∀ (x : Nat) t, (x : Int) < i → c[x]? = some t → termOk t x = true) ∧ a = [.s 7 xs, .lost, ub false, .lost, .lost, .s 7 xs, ui n, ui i, .lost, .lost, .lost, .lost, .lost, .lost, .lost, .lost, .lost] ∧ h = []) ?_ r (cnt c).toNat _ _ hr ⟨0, by omega, by omega, by omega, fun x t hx _ => absurd hx (by omega), rfl, rfl⟩
 rintro j a h K ⟨i, h0, h1, hj, hg, rfl, rfl⟩ hK
 rcases Decidable.em (i < cnt c) with hlt | hlt
 ·obtain ⟨t, ht, hx⟩ := hm i h0 hlt
  have k1 := kt i t h0 ht
  have hg' : termOk t i = true → ∀ (x : Nat) t, (x : Int) < i + 1 → c[x]? = some t → termOk t x = true := fun hb x t' hlx hx' => by
   by_cases e : (x : Int) = i
   ·have : x = i.toNat := by omega
    rw [this, ht] at hx'
    injection hx' with hx'
    rw [← hx', e]
    exact hb
   ·exact hg x t' (by omega) hx'
  have hg2 : termOk t i = false → goodC c = false := fun hb => by
   rw [Bool.eq_false_iff]
   intro hh
   have := goodC_iff.1 hh i.toNat t ht
   rw [show ((i.toNat : Nat) : Int) = i by omega] at this
   rw [this] at hb
   cases hb
  generalize termOk t i = g at *
  obtain ⟨k, a, b, m, s, l, d⟩ := t
  cases g
  ·rw [hg2 rfl] at hu
   clear hg' hg2 hg
   cbv
   (repeat ((first | refine ln fun _ _ _ => ?_ | refine tt ?_ | refine ff ?_ | refine wr fun _ _ => ?_ | refine rp fun _ _ _ => ?_ | with_reducible refine bq ?_ | refine cl ?_ | refine sd ?_ | intro _ _); cbv))
   refine el ?_ (by omega) hx
   cbv
   (repeat ((first | refine ln fun _ _ _ => ?_ | refine tt ?_ | refine ff ?_ | refine wr fun _ _ => ?_ | refine rp fun _ _ _ => ?_ | with_reducible refine bq ?_ | refine cl ?_ | refine sd ?_ | intro _ _); cbv))
   exact hu.symm
  ·cbv
   (repeat ((first | refine ln fun _ _ _ => ?_ | refine tt ?_ | refine ff ?_ | refine wr fun _ _ => ?_ | refine rp fun _ _ _ => ?_ | with_reducible refine bq ?_ | refine cl ?_ | refine sd ?_ | intro _ _); cbv))
   refine el ?_ (by omega) hx
   cbv
   (repeat ((first | refine ln fun _ _ _ => ?_ | refine tt ?_ | refine ff ?_ | refine wr fun _ _ => ?_ | refine rp fun _ _ _ => ?_ | with_reducible refine bq ?_ | refine cl ?_ | refine sd ?_ | intro _ _); cbv))
   rename_i r1 e1
   refine lets [0, 2, 5, 6, 7] ?_
   exact hK (cnt c - (i + 1)).toNat _ _ (by omega) ⟨i + 1, by omega, by omega, rfl, hg' rfl, by rw [e1]; rfl, rfl⟩
 ·rw [goodC_iff.2 fun x t hx => hg x t (by have := (List.getElem?_eq_some_iff.1 hx).1; unfold cnt at h1 hlt; omega) hx] at hu
  clear hg
  cbv
  (repeat ((first | refine ln fun _ _ _ => ?_ | refine tt ?_ | refine ff ?_ | refine wr fun _ _ => ?_ | refine rp fun _ _ _ => ?_ | with_reducible refine bq ?_ | refine cl ?_ | refine sd ?_ | intro _ _); cbv))
  exact hu.symm
def kids (t : Tm) : List Int := if t.k = 7 ∨ t.k = 8 then [t.a] else if t.k = 3 ∨ t.k = 4 ∨ t.k = 5 ∨ t.k = 6 then [t.a, t.b] else []
def kidsU (t : Tm) : U := if kids t = [] then nilU else .s 1 ((kids t).map fun x => [ui x])
def kidsR (us : List U) (u : U) : Prop := ∃ t, us = [.agg (tU t)] ∧ u = kidsU t
theorem kids_ok : SoundF Tryz.prog 40 kidsR := sound [] orc_nil Tryz.func40 (by kernel_rfl) (by kernel_rfl) fun us u hR => ⟨0, fun C E hC => by
 obtain ⟨⟨k, a, b, n, s, l, d⟩, rfl, hu⟩ := hR
 unfold kidsU kids at hu
 dsimp only at hu
 cbv
 rcases Decidable.em (k = 7 ∨ k = 8) with h | h
 ·rw [if_pos h] at hu
  rcases h with h | h <;> ((repeat ((first | refine ln fun _ _ _ => ?_ | refine tt ?_ | refine ff ?_ | refine wr fun _ _ => ?_ | refine rp fun _ _ _ => ?_ | with_reducible refine bq ?_ | refine cl ?_ | refine sd ?_ | intro _ _); cbv)); exact hu.symm)
 rw [if_neg h] at hu
 rcases Decidable.em (k = 3 ∨ k = 4 ∨ k = 5 ∨ k = 6) with h2 | h2
 ·rw [if_pos h2] at hu
  rcases h2 with h2 | h2 | h2 | h2 <;> ((repeat ((first | refine ln fun _ _ _ => ?_ | refine tt ?_ | refine ff ?_ | refine wr fun _ _ => ?_ | refine rp fun _ _ _ => ?_ | with_reducible refine bq ?_ | refine cl ?_ | refine sd ?_ | intro _ _); cbv)); exact hu.symm)
 ·rw [if_neg h2] at hu
  (repeat ((first | refine ln fun _ _ _ => ?_ | refine tt ?_ | refine ff ?_ | refine wr fun _ _ => ?_ | refine rp fun _ _ _ => ?_ | with_reducible refine bq ?_ | refine cl ?_ | refine sd ?_ | intro _ _); cbv)); exact hu.symm⟩
def uB (s : List Bool) : Rows := s.map fun b => [ub b]
def mark (s : List Bool) (ks : List Int) : List Bool := ks.foldl (fun s k => s.set k.toNat true) s
def kidsAt (c : List Tm) (j : Nat) : List Int := match c[j]? with
 | some t => kids t
 | none => []
def down (c : List Tm) : Nat → List Bool → List Bool
 | 0, s => s
 | j + 1, s => down c j (if s[j]? = some true then mark s (kidsAt c j) else s)
def needs (c : List Tm) (i : Nat) : List Bool := down c (i + 1) ((List.replicate c.length false).set i true)
def mayC (c : List Tm) (i : Int) : Bool := decide (0 ≤ i) && decide (i < cnt c) && goodC c
def needsU (c : List Tm) (i : Int) : U := if mayC c i = true then .s 1 (uB (needs c i.toNat)) else nilU
theorem mark_len : ∀ (ks : List Int) (s : List Bool), (mark s ks).length = s.length
 | [], _ => rfl
 | k :: ks, s => by
  show (mark (s.set k.toNat true) ks).length = s.length
  rw [mark_len ks, List.length_set]
theorem down_len (c : List Tm) : ∀ (j : Nat) (s : List Bool), (down c j s).length = s.length
 | 0, _ => rfl
 | j + 1, s => by
  unfold down
  rw [down_len c j]
  split
  ·exact mark_len _ _
  ·rfl
def nilEq (a b : U) : Prop := a = b ∨ (a = nilU ∧ ∃ k, b = .s k [])
def nilEqs : List U → List U → Prop
 | [], [] => True
 | a :: r, b :: q => nilEq a b ∧ nilEqs r q
 | _, _ => False
theorem nilEq_rep {ok : Nat → Prop} {W : World} {m : Map} {a b : U} {v : Value} (h : nilEq a b) (hr : Rep ok W m a v) : Rep ok W m b v := by
 rcases h with rfl | ⟨rfl, k, rfl⟩
 ·exact hr
 ·refine ⟨none, 0, hr, Nat.le_refl _, .inl rfl⟩
theorem nilEqs_reps {ok : Nat → Prop} {W : World} {m : Map} : ∀ {us ws : List U} {vs : List Value}, nilEqs us ws → Reps ok W m us vs → Reps ok W m ws vs
 | [], [], [], _, _ => trivial
 | [], [], _ :: _, _, hr => hr.elim
 | a :: r, b :: q, v :: vs, h, hr => ⟨nilEq_rep h.1 hr.1, nilEqs_reps h.2 hr.2⟩
 | _ :: _, _ :: _, [], _, hr => hr.elim
 | [], _ :: _, _, h, _ => h.elim
 | _ :: _, [], _, h, _ => h.elim
theorem relax {P : Program} {f : FuncId} {R R' : List U → U → Prop} (hs : SoundF P f R) (h : ∀ us u, R' us u → ∃ us' u', R us' u' ∧ nilEqs us us' ∧ nilEq u' u) : SoundF P f R' := fun us u hR => by
 obtain ⟨us', u', h1, h2, h3⟩ := h us u hR
 obtain ⟨hb, hc⟩ := hs us' u' h1
 refine ⟨hb, fun W S cs hr => ?_⟩
 exact (hc W S cs (nilEqs_reps h2 hr)).mono fun e W' ⟨v, e1, e2, e3⟩ => ⟨v, e1, nilEq_rep h3 e2, e3⟩
theorem eqs_refl : ∀ us : List U, nilEqs us us
 | [] => trivial
 | u :: us => ⟨.inl rfl, eqs_refl us⟩
def kidsR' (us : List U) (u : U) : Prop := ∃ t, us = [.agg (tU t)] ∧ u = .s 1 ((kids t).map fun x => [ui x])
theorem kids_ok' : SoundF Tryz.prog 40 kidsR' := relax kids_ok fun us u ⟨t, h1, h2⟩ => by
 refine ⟨us, _, ⟨t, h1, rfl⟩, eqs_refl _, ?_⟩
 rw [h2]
 unfold kidsU
 split
 ·rename_i h
  rw [h]
  exact .inr ⟨rfl, 1, rfl⟩
 ·exact .inl rfl
theorem kids_in {t : Tm} {i : Int} (h : termOk t i = true) : ∀ k ∈ kids t, 0 ≤ k ∧ k < i := by
 unfold termOk noneB kid at h
 unfold kids
 intro k hk
 split at hk
 ·rename_i h7
  have e1 : ¬ t.k = 1 := by omega
  have e2 : ¬ t.k = 2 := by omega
  rw [if_neg e1, if_neg e2] at h
  rw [List.mem_singleton] at hk
  subst hk
  rcases h7 with h7 | h7
  ·rw [if_pos h7] at h
   simp at h
   omega
  ·rw [if_neg (by omega), if_pos h7] at h
   simp at h
   omega
 ·split at hk
  ·rename_i h7 h3
   rw [if_neg (by omega), if_neg (by omega), if_neg (by omega), if_neg (by omega), if_pos h3] at h
   simp at h
   rcases List.mem_cons.1 hk with rfl | hk
   ·omega
   ·rw [List.mem_singleton.1 hk]
    omega
  ·cases hk
def to4 (a : R3) : R4 := (a.1, a.2.1, a.2.2, 0)
def to3 (a : R4) : R3 := (a.1, a.2.1, a.2.2.1)
def ownS (a : R3) : R3 := negS (negS a)
def at3 (l : List R3) (i : Int) : R3 := (l[i.toNat]?).getD none3
def evT (vs xs : List R3) (t : Tm) : R4 :=
 if t.k = 1 then to4 (ownS t.q)
 else if t.k = 2 then to4 (ownS (at3 xs t.n))
 else if t.k = 3 then addS (at3 vs t.a) (at3 vs t.b)
 else if t.k = 4 then subS (at3 vs t.a) (at3 vs t.b)
 else if t.k = 5 then mulS (at3 vs t.a) (at3 vs t.b)
 else if t.k = 6 then divS (at3 vs t.a) (at3 vs t.b)
 else if t.k = 7 then to4 (negS (at3 vs t.a))
 else powS (at3 vs t.a) t.n
def evStep (c : List Tm) (xs : List R3) (nd : List Bool) (i : Nat) (p : List R3 × Int) : List R3 × Int :=
 if nd[i]? = some true then (match c[i]? with
  | some t => if (evT p.1 xs t).2.2.2 = 0 then (p.1.set i (to3 (evT p.1 xs t)), 0) else (p.1, (evT p.1 xs t).2.2.2)
  | none => p) else p
def evN (c : List Tm) (xs : List R3) (nd : List Bool) : Nat → List R3 × Int
 | 0 => (List.replicate c.length none3, 0)
 | i + 1 => if (evN c xs nd i).2 = 0 then evStep c xs nd i (evN c xs nd i) else evN c xs nd i
def refsB (c : List Tm) (nd : List Bool) (n : Int) : Bool := (List.range c.length).all fun j => match c[j]? with
 | some t => !(nd[j]? == some true && decide (t.k = 2) && decide (n ≤ t.n))
 | none => true
def madeB (c : List Tm) (i : Int) (xs : List R3) : Bool := mayC c i && xs.all goodB && refsB c (needs c i.toNat) (cnt xs)
def ofS (c : List Tm) (i : Int) (xs : List R3) : R4 :=
 if madeB c i xs = true then (if (evN c xs (needs c i.toNat) (i.toNat + 1)).2 = 0 then to4 (at3 (evN c xs (needs c i.toNat) (i.toNat + 1)).1 i) else bad (evN c xs (needs c i.toNat) (i.toNat + 1)).2) else bad 1
theorem evStep_len (c : List Tm) (xs : List R3) (nd : List Bool) (i : Nat) (p : List R3 × Int) : (evStep c xs nd i p).1.length = p.1.length := by
 unfold evStep
 split
 ·split
  ·split
   ·exact List.length_set
   ·rfl
  ·rfl
 ·rfl
theorem evN_len (c : List Tm) (xs : List R3) (nd : List Bool) : ∀ i, (evN c xs nd i).1.length = c.length
 | 0 => List.length_replicate
 | i + 1 => by
  unfold evN
  split
  ·rw [evStep_len, evN_len]
  ·exact evN_len c xs nd i
theorem evN_stop {c : List Tm} {xs : List R3} {nd : List Bool} {i : Nat} (h : (evN c xs nd i).2 ≠ 0) : ∀ j, evN c xs nd (i + j) = evN c xs nd i
 | 0 => rfl
 | j + 1 => by
  have e := evN_stop h j
  show evN c xs nd (i + j + 1) = _
  rw [evN, e, if_neg h]
theorem own_good {a : R3} (h : goodB a = true) : ownS a = a := by
 obtain ⟨q, hq, rfl⟩ := good_iff.1 h
 unfold ownS negS
 rw [if_pos h, qOf_ratOf, if_pos (good_ratOf ((fits_neg q).trans hq)), qOf_ratOf, Rat.neg_neg]
theorem LB_none : LB none3 := ⟨Limbs.nil, Limbs.nil, by decide, by decide⟩
theorem LB_lim (q : Rat) : LB (to3 (lim q)) := by
 unfold lim
 split
 ·rename_i h
  exact (LR_ratOf h).wide
 ·exact LB_none
theorem LB_neg (a : R3) : LB (negS a) := LR_neg.wide
theorem LB_bad (e : Int) : LB (to3 (bad e)) := LB_none
theorem LB_add (a b : R3) : LB (to3 (addS a b)) := by unfold addS; split; exact LB_lim _; exact LB_bad _
theorem LB_sub (a b : R3) : LB (to3 (subS a b)) := by unfold subS; split; exact LB_lim _; exact LB_bad _
theorem LB_mul (a b : R3) : LB (to3 (mulS a b)) := by unfold mulS; split; exact LB_lim _; exact LB_bad _
theorem LB_div (a b : R3) : LB (to3 (divS a b)) := by
 unfold divS
 split
 ·split
  ·exact LB_bad _
  ·exact LB_lim _
 ·exact LB_bad _
theorem LB_pow (a : R3) (n : Int) : LB (to3 (powS a n)) := by
 unfold powS
 split
 ·split
  ·split
   ·exact LB_bad _
   ·exact LB_lim _
  ·exact LB_bad _
 ·exact LB_bad _
theorem LB_ev (vs xs : List R3) (t : Tm) : LB (to3 (evT vs xs t)) := by
 unfold evT
 repeat' split
 ·exact LB_neg _
 ·exact LB_neg _
 ·exact LB_add _ _
 ·exact LB_sub _ _
 ·exact LB_mul _ _
 ·exact LB_div _ _
 ·exact LB_neg _
 ·exact LB_pow _ _
theorem LB_at {l : List R3} (h : ∀ a ∈ l, LB a) (i : Int) : LB (at3 l i) := by
 unfold at3
 cases e : l[i.toNat]? with
 | none => exact LB_none
 | some a => exact h a (List.mem_of_getElem? e)
theorem LB_evN (c : List Tm) (xs : List R3) (nd : List Bool) : ∀ i, ∀ a ∈ (evN c xs nd i).1, LB a
 | 0, a, h => by
  rw [(List.mem_replicate.1 h).2]
  exact LB_none
 | i + 1, a, h => by
  unfold evN at h
  split at h
  ·unfold evStep at h
   split at h
   ·split at h
    ·split at h
     ·rcases List.mem_or_eq_of_mem_set h with h | h
      ·exact LB_evN c xs nd i a h
      ·rw [h]
       exact LB_ev _ _ _
     ·exact LB_evN c xs nd i a h
    ·exact LB_evN c xs nd i a h
   ·exact LB_evN c xs nd i a h
  ·exact LB_evN c xs nd i a h
theorem uB_len (s : List Bool) : cnt (uB s) = cnt s := by unfold cnt uB; rw [List.length_map]
theorem uB_nth {s : List Bool} {k : Int} (h0 : 0 ≤ k) (h1 : k < cnt s) : ∃ b, s[k.toNat]? = some b ∧ (uB s)[k.toNat]? = some [ub b] := by
 unfold cnt at h1
 refine ⟨s[k.toNat]'(by omega), by simp, ?_⟩
 unfold uB
 rw [List.getElem?_map, List.getElem?_eq_getElem (by omega)]
 rfl
theorem uB_set (s : List Bool) (k : Nat) (b : Bool) : (uB s).set k [ub b] = uB (s.set k b) := by unfold uB; rw [List.map_set]
theorem mark_next {s : List Bool} {ks : List Int} {m : Int} {x : Int} (h0 : 0 ≤ m) (hx : ks[m.toNat]? = some x) : (mark s (ks.take m.toNat)).set x.toNat true = mark s (ks.take (m + 1).toNat) := by
 rw [show (m + 1).toNat = m.toNat + 1 by omega, List.take_add_one, hx]
 unfold mark
 rw [List.foldl_append]
 rfl
theorem down_yes {c : List Tm} {s : List Bool} {k : Int} {t : Tm} (h0 : 0 ≤ k) (h : s[k.toNat]? = some true) (ht : c[k.toNat]? = some t) : down c (k + 1).toNat s = down c k.toNat (mark s (kids t)) := by
 rw [show (k + 1).toNat = k.toNat + 1 by omega]
 rw [down, if_pos h, kidsAt, ht]
theorem down_no {c : List Tm} {s : List Bool} {k : Int} (h0 : 0 ≤ k) (h : s[k.toNat]? = some false) : down c (k + 1).toNat s = down c k.toNat s := by
 rw [show (k + 1).toNat = k.toNat + 1 by omega]
 conv => lhs; unfold down
 rw [if_neg (by rw [h]; simp)]
def needsR (us : List U) (u : U) : Prop := ∃ c i, (∀ t ∈ c, LB t.q) ∧ cnt c ≤ 1000000 ∧ us = [cU c, ui i] ∧ u = needsU c i
theorem needs_ok : SoundF Tryz.prog 20 needsR := sound [(39, cgoodR), (40, kidsR')] (orc_cons cgood_ok (orc_cons kids_ok' orc_nil)) Tryz.func20 (by kernel_rfl) (by kernel_rfl) fun us u hR => by
 obtain ⟨c, i, hq, hn, rfl, hu⟩ := hR
 obtain ⟨r, hr⟩ : ∃ r, (cnt c).toNat + 10 < r := ⟨_, Nat.lt_succ_self _⟩
 refine ⟨r, fun C E hC => ?_⟩
 have kg := hC 39 cgoodR (by simp) _ _ ⟨c, hq, by omega, rfl, rfl⟩
 have kt : ∀ t, C 40 [.agg (tU t)] (.s 1 ((kids t).map fun x => [ui x])) := fun t => hC 40 kidsR' (by simp) _ _ ⟨t, rfl, rfl⟩
 have hm := fun i (h0 : 0 ≤ i) (h1 : i < cnt c) => nth_map (c := c) tU h0 h1
 have hc := cnt_map c tU
 have hc0 := cnt0 c
 unfold needsU mayC at hu
 have hgood : goodC c = true → ∀ (k : Int) t, 0 ≤ k → c[k.toNat]? = some t → ∀ x ∈ kids t, 0 ≤ x ∧ x < k := fun h k t h0 ht x hx => by
  have := kids_in (goodC_iff.1 h k.toNat t ht) x hx
  omega
 clear hC hq
 unfold cU at kg ⊢
 obtain ⟨uB, huB⟩ : ∃ f : List Bool → Rows, f = Rd.uB := ⟨_, rfl⟩
 have uB_len : ∀ s, cnt (uB s) = cnt s := fun s => by rw [huB]; exact Rd.uB_len s
 have uB_nth : ∀ {s : List Bool} {k : Int}, 0 ≤ k → k < cnt s → ∃ b, s[k.toNat]? = some b ∧ (uB s)[k.toNat]? = some [ub b] := fun {s k} h0 h1 => by rw [huB]; exact Rd.uB_nth h0 h1
 have uB_set : ∀ (s : List Bool) (k : Nat) (b : Bool), (uB s).set k [ub b] = uB (s.set k b) := fun s k b => by rw [huB]; exact Rd.uB_set s k b
 rw [← huB] at hu
 generalize c.map tU = xs at *
 generalize goodC c = g at *
 cbv
 rcases Decidable.em (0 ≤ i) with h1 | h1
 case inr =>
  rw [decide_eq_false h1, Bool.false_and, Bool.false_and, if_neg (by simp)] at hu
  (repeat ((first | refine ln fun _ _ _ => ?_ | refine tt ?_ | refine ff ?_ | refine wr fun _ _ => ?_ | refine rp fun _ _ _ => ?_ | with_reducible refine bq ?_ | refine cl ?_ | refine sd ?_ | intro _ _); cbv)); exact hu.symm
 rcases Decidable.em (i < cnt c) with h2 | h2
 case inr =>
  rw [decide_eq_false h2, Bool.and_false, Bool.false_and, if_neg (by simp)] at hu
  (repeat ((first | refine ln fun _ _ _ => ?_ | refine tt ?_ | refine ff ?_ | refine wr fun _ _ => ?_ | refine rp fun _ _ _ => ?_ | with_reducible refine bq ?_ | refine cl ?_ | refine sd ?_ | intro _ _); cbv)); exact hu.symm
 cases g
 ·rw [Bool.and_false, if_neg (by simp)] at hu
  (repeat ((first | refine ln fun _ _ _ => ?_ | refine tt ?_ | refine ff ?_ | refine wr fun _ _ => ?_ | refine rp fun _ _ _ => ?_ | with_reducible refine bq ?_ | refine cl ?_ | refine sd ?_ | intro _ _); cbv)); exact hu.symm
 rw [decide_eq_true h1, decide_eq_true h2, Bool.true_and, Bool.true_and, if_pos rfl] at hu
 have hgood := hgood rfl
 (repeat ((first | refine ln fun _ _ _ => ?_ | refine tt ?_ | refine ff ?_ | refine wr fun _ _ => ?_ | refine rp fun _ _ _ => ?_ | with_reducible refine bq ?_ | refine cl ?_ | refine sd ?_ | intro _ _); cbv))
 rename_i n0 hn0 hn0' n hn hn' rs hrs hrc
 refine el (us := [ub false]) ?_ (by omega) (by rw [hrs, List.getElem?_replicate, if_pos (by omega)])
 cbv
 refine se fun ys e hyc => ?_
 have e2 : ys = uB ((List.replicate c.length false).set i.toNat true) := by
  rw [e, hrs, ← uB_set, huB]
  unfold Rd.uB
  rw [List.map_replicate]
  congr 2
  unfold cnt at hc hn
  omega
 have hnc : n = cnt c := by omega
 obtain ⟨s0, hs0⟩ : ∃ s0, s0 = (List.replicate c.length false).set i.toNat true := ⟨_, rfl⟩
 rw [← hs0] at e2
 clear e hrs hyc hrc
 subst e2
 cbv
 (repeat ((first | refine ln fun _ _ _ => ?_ | refine tt ?_ | refine ff ?_ | refine wr fun _ _ => ?_ | refine rp fun _ _ _ => ?_ | with_reducible refine bq ?_ | refine cl ?_ | refine sd ?_ | intro _ _); cbv))
 refine lets [0, 1, 4, 5, 6] ?_
 cbv
 refine loop_inv (fun j a h => ∃ (k : Int) (s : List Bool), -1 ≤ k ∧ k ≤ i ∧ j = (k + 1).toNat ∧ cnt s = cnt c ∧ down c (k + 1).toNat s = needs c i.toNat ∧ a = [.s 7 xs, ui i, .lost, .lost, nilU, .sl 0 n n 1, ui k, .lost, .lost, .lost, .lost, .lost, .lost, .lost, .lost, .lost, .lost, .lost, .lost, .lost, .lost, .lost, .lost, .lost, .lost, .lost, .lost, .lost, .lost, .lost, .lost, .lost, .lost, .lost, .lost, .lost, .lost, .lost, .lost, .lost, .lost, .lost, .lost, .lost, .lost, .lost, .lost, .lost, .lost, .lost, .lost, .lost, .lost] ∧ h = [some (.row 1 (uB s))]) ?_ r (i + 1).toNat _ _ (by omega) ⟨i, s0, by omega, by omega, rfl, by rw [hs0]; unfold cnt; rw [List.length_set, List.length_replicate], by rw [hs0, show (i + 1).toNat = i.toNat + 1 by omega]; rfl, rfl, rfl⟩
 rintro j a h K ⟨k, s, h3, h4, hj, hsc, hd, rfl, rfl⟩ hK
 rcases Decidable.em (0 ≤ k) with h5 | h5
 ·obtain ⟨b, hb, hx⟩ := uB_nth (s := s) h5 (by omega)
  cases b
  ·rw [down_no h5 hb] at hd
   cbv
   (repeat ((first | refine ln fun _ _ _ => ?_ | refine tt ?_ | refine ff ?_ | refine wr fun _ _ => ?_ | refine rp fun _ _ _ => ?_ | with_reducible refine bq ?_ | refine cl ?_ | refine sd ?_ | intro _ _); cbv))
   refine el ?_ (by omega) hx
   cbv
   (repeat ((first | refine ln fun _ _ _ => ?_ | refine tt ?_ | refine ff ?_ | refine wr fun _ _ => ?_ | refine rp fun _ _ _ => ?_ | with_reducible refine bq ?_ | refine cl ?_ | refine sd ?_ | intro _ _); cbv))
   rename_i k' hk'
   refine lets [0, 1, 4, 5, 6] ?_
   refine hK k.toNat _ _ (by omega) ⟨k - 1, s, by omega, by omega, by omega, hsc, ?_, by rw [hk']; rfl, rfl⟩
   rw [show k - 1 + 1 = k by omega]
   exact hd
  ·obtain ⟨t, ht, hx2⟩ := hm k h5 (by omega)
   rw [down_yes h5 hb ht] at hd
   have k1 := kt t
   have hk := hgood k t h5 ht
   have hms := mark_len
   have hkl : cnt (kids t) ≤ 2 := by
    unfold kids cnt
    split
    ·simp
    ·split <;> simp
   have hws := fun m (h0 : 0 ≤ m) (h1 : m < cnt (kids t)) => nth_map (c := kids t) (fun x => [ui x]) h0 h1
   have hwc := cnt_map (kids t) fun x => [ui x]
   have hkc := cnt0 (kids t)
   generalize kids t = ks at *
   generalize ks.map (fun x => [ui x]) = ws at *
   obtain ⟨tk, ta, tb, tn, ts, tl, td⟩ := t
   cbv
   (repeat ((first | refine ln fun _ _ _ => ?_ | refine tt ?_ | refine ff ?_ | refine wr fun _ _ => ?_ | refine rp fun _ _ _ => ?_ | with_reducible refine bq ?_ | refine cl ?_ | refine sd ?_ | intro _ _); cbv))
   refine el ?_ (by omega) hx
   cbv
   (repeat ((first | refine ln fun _ _ _ => ?_ | refine tt ?_ | refine ff ?_ | refine wr fun _ _ => ?_ | refine rp fun _ _ _ => ?_ | with_reducible refine bq ?_ | refine cl ?_ | refine sd ?_ | intro _ _); cbv))
   refine el ?_ (by omega) hx2
   cbv
   (repeat ((first | refine ln fun _ _ _ => ?_ | refine tt ?_ | refine ff ?_ | refine wr fun _ _ => ?_ | refine rp fun _ _ _ => ?_ | with_reducible refine bq ?_ | refine cl ?_ | refine sd ?_ | intro _ _); cbv))
   rename_i nk hnk hnk'
   refine lets [0, 1, 4, 5, 6, 42, 43, 44] ?_
   cbv
   refine loop_inv (fun j a h => ∃ m : Int, 0 ≤ m ∧ m ≤ cnt ks ∧ j = (cnt ks - m).toNat ∧ a = [.s 7 xs, ui i, .lost, .lost, nilU, .sl 0 n n 1, ui k, .lost, .lost, .lost, .lost, .lost, .lost, .lost, .lost, .lost, .lost, .lost, .lost, .lost, .lost, .lost, .lost, .lost, .lost, .lost, .lost, .lost, .lost, .lost, .lost, .lost, .lost, .lost, .lost, .lost, .lost, .lost, .lost, .lost, .lost, .lost, .s 1 ws, ui nk, ui m, .lost, .lost, .lost, .lost, .lost, .lost, .lost, .lost] ∧ h = [some (.row 1 (uB (mark s (ks.take m.toNat))))]) ?_ r (cnt ks).toNat _ _ (by omega) ⟨0, by omega, by omega, by omega, rfl, rfl⟩
   rintro j2 a h K2 ⟨m, m0, m1, hj2, rfl, rfl⟩ hK2
   rcases Decidable.em (m < cnt ks) with h6 | h6
   ·obtain ⟨x, hx3, hx4⟩ := hws m m0 h6
    have hxk := hk x (List.mem_of_getElem? hx3)
    have hsc2 : cnt (mark s (ks.take m.toNat)) = cnt s := by unfold cnt; rw [mark_len]
    obtain ⟨b, hb2, hx5⟩ := uB_nth (s := mark s (ks.take m.toNat)) hxk.1 (by omega)
    have hnext := mark_next (s := s) m0 hx3
    generalize mark s (ks.take m.toNat) = s2 at *
    cbv
    (repeat ((first | refine ln fun _ _ _ => ?_ | refine tt ?_ | refine ff ?_ | refine wr fun _ _ => ?_ | refine rp fun _ _ _ => ?_ | with_reducible refine bq ?_ | refine cl ?_ | refine sd ?_ | intro _ _); cbv))
    refine el ?_ (by omega) hx4
    cbv
    (repeat ((first | refine ln fun _ _ _ => ?_ | refine tt ?_ | refine ff ?_ | refine wr fun _ _ => ?_ | refine rp fun _ _ _ => ?_ | with_reducible refine bq ?_ | refine cl ?_ | refine sd ?_ | intro _ _); cbv))
    refine el ?_ (by omega) hx5
    cbv
    refine se fun ys e hyc => ?_
    obtain ⟨s3, hs3⟩ : ∃ s3, s3 = mark s (ks.take (m + 1).toNat) := ⟨_, rfl⟩
    have e2 : ys = uB s3 := by rw [e, hs3, ← hnext, ← uB_set]
    clear e hyc
    subst e2
    cbv
    (repeat ((first | refine ln fun _ _ _ => ?_ | refine tt ?_ | refine ff ?_ | refine wr fun _ _ => ?_ | refine rp fun _ _ _ => ?_ | with_reducible refine bq ?_ | refine cl ?_ | refine sd ?_ | intro _ _); cbv))
    rename_i m' hm'
    refine lets [0, 1, 4, 5, 6, 42, 43, 44] ?_
    exact hK2 (cnt ks - (m + 1)).toNat _ _ (by omega) ⟨m + 1, by omega, by omega, rfl, by rw [hm']; rfl, by subst hs3; rfl⟩
   ·have e3 : ks.take m.toNat = ks := List.take_of_length_le (by unfold cnt at h6 m1; omega)
    rw [e3]
    have hsc2 : cnt (mark s ks) = cnt s := by unfold cnt; rw [mark_len]
    generalize mark s ks = s2 at *
    cbv
    (repeat ((first | refine ln fun _ _ _ => ?_ | refine tt ?_ | refine ff ?_ | refine wr fun _ _ => ?_ | refine rp fun _ _ _ => ?_ | with_reducible refine bq ?_ | refine cl ?_ | refine sd ?_ | intro _ _); cbv))
    rename_i k' hk'
    refine lets [0, 1, 4, 5, 6] ?_
    refine hK k.toNat _ _ (by omega) ⟨k - 1, s2, by omega, by omega, by omega, by omega, ?_, by rw [hk']; rfl, rfl⟩
    rw [show k - 1 + 1 = k by omega]
    exact hd
 ·rw [show (k + 1).toNat = 0 by omega] at hd
  unfold down at hd
  have hsl := uB_len s
  rw [← hd] at hu
  cbv
  (repeat ((first | refine ln fun _ _ _ => ?_ | refine tt ?_ | refine ff ?_ | refine wr fun _ _ => ?_ | refine rp fun _ _ _ => ?_ | with_reducible refine bq ?_ | refine cl ?_ | refine sd ?_ | intro _ _); cbv))
  rename_i ys e
  rw [hu, e, List.take_of_length_le (by unfold cnt at *; omega)]
theorem remR {a b : List Int} (ha : Limbs a) (hb : Limbs b) (h1 : cnt a ≤ 1000000) (h2 : cnt b ≤ 1000000) (hz : V b ≠ 0) : quo_Rem.R [.l a, .l b] (.tup [.l (N (V a / V b)), .l (N (V a % V b)), ub true]) := by
 obtain ⟨k, hk⟩ := (rem_tells ha hb (by unfold cnt at h1; omega) (by unfold cnt at h2; omega)).rounds
 rw [if_neg hz] at hk
 exact ⟨k, _, _, _, _, _, rfl, hk, rfl⟩
def ratofR (us : List U) (u : U) : Prop := ∃ s l b, Limbs l ∧ Limbs b ∧ cnt l ≤ 500000 ∧ cnt b ≤ 500000 ∧ us = [.agg [ub s, .l l], .l b] ∧ u = uR4 (if V b = 0 then bad 3 else lim (mkRat (Z s l) (V b)))
theorem ratof_ok : SoundF Tryz.prog 85 ratofR := sound [(73, wTrimR), (77, nat_Trim.R), (48, quo_Gcd.R), (78, quo_Rem.R)] (orc_cons wTrim_ok (orc_cons nat_Trim.sound (orc_cons quo_Gcd.sound (orc_cons quo_Rem.sound orc_nil)))) Tryz.func85 (by kernel_rfl) (by kernel_rfl) fun us u hR => ⟨0, fun C E hC => by
 obtain ⟨s, l, b, hl, hb, c1, c2, rfl, hu⟩ := hR
 obtain ⟨s1, l1, k1, e1, e2⟩ := tI (hC 73 wTrimR (by simp) _ _ ⟨s, l, hl, by omega, rfl, rfl⟩)
 have k2 := hC 77 nat_Trim.R (by simp) _ _ (trimR hb (by omega))
 have b1 := lenV hl
 have b2 := lenV hb
 rw [← Z_abs s l] at b1
 generalize Z s l = z at *
 generalize V b = B at *
 by_cases hz : B = 0
 ·subst hz
  rw [if_pos rfl] at hu
  have e0 : cnt (N 0) = 0 := by rw [cnt_N, len_zero]; rfl
  generalize N 0 = l2 at *
  clear e1 e2
  cbv
  (repeat ((first | refine ln fun _ _ _ => ?_ | refine tt ?_ | refine ff ?_ | refine wr fun _ _ => ?_ | refine wu fun _ _ => ?_ | refine rp fun _ _ _ => ?_ | refine cp fun _ => ?_ | with_reducible refine bq ?_ | refine cl ?_ | refine sd ?_ | intro _ _); cbv))
  rw [hu]; rfl
 rw [if_neg hz] at hu
 have hg : 0 < Nat.gcd z.natAbs B := Nat.gcd_pos_of_pos_right _ (by omega)
 obtain ⟨p1, p2, p3⟩ := mk_parts z B hz
 have hgb : len (Nat.gcd z.natAbs B) ≤ len B := len_mono (Nat.gcd_le_right _ (by omega))
 have k3 := hC 48 quo_Gcd.R (by simp) _ _ (gcdR (a := l1) (e2 ▸ N_limbs _) (N_limbs B) (by rw [e2, cnt_N]; omega) (by rw [cnt_N]; omega))
 have v1 : V l1 = z.natAbs := by rw [e2, V_N]
 have q1 : cnt l1 = len z.natAbs := by rw [e2, cnt_N]
 have q2 : cnt (N B) = len B := cnt_N _
 rw [v1, V_N] at k3
 have k4 := hC 78 quo_Rem.R (by simp) _ _ (remR (a := l1) (e2 ▸ N_limbs _) (N_limbs (Nat.gcd z.natAbs B)) (by omega) (by rw [cnt_N]; omega) (by rw [V_N]; omega))
 have k5 := hC 78 quo_Rem.R (by simp) _ _ (remR (N_limbs B) (N_limbs (Nat.gcd z.natAbs B)) (by omega) (by rw [cnt_N]; omega) (by rw [V_N]; omega))
 rw [v1, V_N, ← p1] at k4
 rw [V_N, V_N, ← p2] at k5
 have r1 : 0 < cnt (N B) := by have : len B ≠ 0 := fun h => hz (len_eq_zero.1 h); omega
 rw [← p3] at e1
 have hs1 : s1 = (ratOf (mkRat z B)).1 := e1
 have n1 : cnt (N (mkRat z B).num.natAbs) = len (mkRat z B).num.natAbs := cnt_N _
 have n2 : cnt (N (mkRat z B).den) = len (mkRat z B).den := cnt_N _
 have hu2 : u = if len (mkRat z B).num.natAbs ≤ 64 ∧ len (mkRat z B).den ≤ 64 then .tup [.agg [ub s1, .l (N (mkRat z B).num.natAbs), .l (N (mkRat z B).den)], ui 0] else .tup [.agg [ub false, .l [], .l []], ui 2] := by
  rw [hu, hs1]
  unfold lim fits
  by_cases h : len (mkRat z B).num.natAbs ≤ 64 ∧ len (mkRat z B).den ≤ 64
  ·rw [if_pos h, if_pos (by simpa using h)]; rfl
  ·rw [if_neg h, if_neg (by simpa using h)]; rfl
 clear hu hs1 e1 e2 p1 p2 p3 hg hgb v1 b1 b2 q1 q2 hb hl
 generalize len (mkRat z B).num.natAbs = x1 at *
 generalize len (mkRat z B).den = x2 at *
 generalize N (mkRat z B).num.natAbs = l3 at *
 generalize N (mkRat z B).den = l4 at *
 generalize N B = l5 at *
 generalize N (Nat.gcd z.natAbs B) = l6 at *
 generalize N (z.natAbs % Nat.gcd z.natAbs B) = l7 at *
 generalize N (B % Nat.gcd z.natAbs B) = l8 at *
 by_cases h1 : cnt l3 ≤ 64
 ·by_cases h2 : cnt l4 ≤ 64
  ·rw [if_pos (by omega)] at hu2
   cbv; (repeat ((first | refine ln fun _ _ _ => ?_ | refine tt ?_ | refine ff ?_ | refine wr fun _ _ => ?_ | refine wu fun _ _ => ?_ | refine rp fun _ _ _ => ?_ | refine cp fun _ => ?_ | with_reducible refine bq ?_ | refine cl ?_ | refine sd ?_ | intro _ _); cbv)); exact hu2.symm
  ·rw [if_neg (by omega)] at hu2
   cbv; (repeat ((first | refine ln fun _ _ _ => ?_ | refine tt ?_ | refine ff ?_ | refine wr fun _ _ => ?_ | refine wu fun _ _ => ?_ | refine rp fun _ _ _ => ?_ | refine cp fun _ => ?_ | with_reducible refine bq ?_ | refine cl ?_ | refine sd ?_ | intro _ _); cbv)); exact hu2.symm
 ·rw [if_neg (by omega)] at hu2
  cbv; (repeat ((first | refine ln fun _ _ _ => ?_ | refine tt ?_ | refine ff ?_ | refine wr fun _ _ => ?_ | refine wu fun _ _ => ?_ | refine rp fun _ _ _ => ?_ | refine cp fun _ => ?_ | with_reducible refine bq ?_ | refine cl ?_ | refine sd ?_ | intro _ _); cbv)); exact hu2.symm⟩
theorem rat_parts {p : Rat} (hp : fits p = true) : ∃ s l b, ratOf p = (s, l, b) ∧ Limbs l ∧ Limbs b ∧ cnt l ≤ 64 ∧ cnt b ≤ 64 ∧ Z s l = p.num ∧ V b = p.den ∧ V l = p.num.natAbs ∧ s = decide (p.num < 0) := by
 obtain ⟨h1, h2⟩ := fits_len hp
 exact ⟨_, _, _, rfl, N_limbs _, N_limbs _, by rw [cnt_N]; omega, by rw [cnt_N]; omega, Z_ratOf p, V_ratOf p, V_N _, rfl⟩
def crossR (us : List U) (u : U) : Prop := ∃ s1 l1 b1 s2 l2 b2, Limbs l1 ∧ Limbs b2 ∧ cnt l1 ≤ 100000 ∧ cnt b2 ≤ 100000 ∧ us = [.agg [ub s1, .l l1, .l b1], .agg [ub s2, .l l2, .l b2]] ∧ u = uI (Z s1 l1 * V b2)
theorem cross_ok : SoundF Tryz.prog 87 crossR := sound [(89, wMulR)] (orc_cons wMul_ok orc_nil) Tryz.func87 (by kernel_rfl) (by kernel_rfl) fun us u hR => ⟨0, fun C E hC => by
 obtain ⟨s1, l1, b1, s2, l2, b2, hl, hb, c1, c2, rfl, hu⟩ := hR
 obtain ⟨s, l, k1, e1, e2⟩ := tI (hC 89 wMulR (by simp) _ _ ⟨s1, l1, false, b2, hl, hb, c1, c2, rfl, rfl⟩)
 rw [show Z false b2 = (V b2 : Int) by unfold Z; simp] at e1 e2
 cbv; (repeat ((first | refine ln fun _ _ _ => ?_ | refine tt ?_ | refine ff ?_ | refine wr fun _ _ => ?_ | refine wu fun _ _ => ?_ | refine rp fun _ _ _ => ?_ | refine cp fun _ => ?_ | with_reducible refine bq ?_ | refine cl ?_ | refine sd ?_ | intro _ _); cbv)); rw [hu, e1, e2]; rfl⟩
def rWholeR (us : List U) (u : U) : Prop := ∃ v : Int, -9223372036854775808 ≤ v ∧ v ≤ 9223372036854775807 ∧ us = [ui v] ∧ u = uR (ratOf (v : Rat))
theorem rWhole_ok : SoundF Tryz.prog 92 rWholeR := sound [(113, wOfR), (49, nat_Of.R)] (orc_cons wOf_ok (orc_cons nat_Of.sound orc_nil)) Tryz.func92 (by kernel_rfl) (by kernel_rfl) fun us u hR => ⟨0, fun C E hC => by
 obtain ⟨v, h0, h1, rfl, hu⟩ := hR
 obtain ⟨s, l, k1, e1, e2⟩ := tI (hC 113 wOfR (by simp) _ _ ⟨v, h0, h1, rfl, rfl⟩)
 obtain ⟨l2, k2, e3⟩ := tN (hC 49 nat_Of.R (by simp) _ _ (nofR 1 (by omega)))
 rw [ratOf_int] at hu
 cbv; (repeat ((first | refine ln fun _ _ _ => ?_ | refine tt ?_ | refine ff ?_ | refine wr fun _ _ => ?_ | refine wu fun _ _ => ?_ | refine rp fun _ _ _ => ?_ | refine cp fun _ => ?_ | with_reducible refine bq ?_ | refine cl ?_ | refine sd ?_ | intro _ _); cbv)); rw [hu, e1, e2, e3]; rfl⟩
def rNegR (us : List U) (u : U) : Prop := ∃ a : R3, LB a ∧ us = [uR a] ∧ u = uR (negS a)
theorem rNeg_ok : SoundF Tryz.prog 63 rNegR := sound [(27, goodR), (90, wNegR)] (orc_cons good_ok (orc_cons wNeg_ok orc_nil)) Tryz.func63 (by kernel_rfl) (by kernel_rfl) fun us u hR => ⟨0, fun C E hC => by
 obtain ⟨⟨s, l, b⟩, ha, rfl, hu⟩ := hR
 have k1 := hC 27 goodR (by simp) _ _ ⟨_, ha, rfl, rfl⟩
 unfold negS at hu
 by_cases h : goodB (s, l, b) = true
 ·rw [if_pos h] at hu
  rw [h] at k1
  obtain ⟨p, hp, hq⟩ := good_iff.1 h
  obtain ⟨s', l', b', e, g1, g2, g3, g4, g5, g6, g7, g8⟩ := rat_parts hp
  rw [e] at hq
  injection hq with q1 q2
  injection q2 with q2 q3
  subst q1 q2 q3
  rw [← e, qOf_ratOf] at hu
  have e4 : b = N p.den := by rw [← V_ratOf, e]; unfold ratOf at e; injection e with _ e; injection e with _ e; rw [← e, V_N]
  obtain ⟨s1, l1, k2, e1, e2⟩ := tI (hC 90 wNegR (by simp) _ _ ⟨s, l, g1, by omega, rfl, rfl⟩)
  rw [g5] at e1 e2
  have hu' : u = .agg [ub s1, .l l1, .l b] := by
   rw [hu, e1, e2, e4]
   unfold uR ratOf
   rw [Rat.neg_num, Rat.neg_den]
  clear hu e1 e2 e4 e g5 g6 g7 g8 h ha
  cbv; (repeat ((first | refine ln fun _ _ _ => ?_ | refine tt ?_ | refine ff ?_ | refine wr fun _ _ => ?_ | refine wu fun _ _ => ?_ | refine rp fun _ _ _ => ?_ | refine cp fun _ => ?_ | with_reducible refine bq ?_ | refine cl ?_ | refine sd ?_ | intro _ _); cbv)); exact hu'.symm
 ·rw [if_neg h] at hu
  rw [Bool.eq_false_iff.2 h] at k1
  cbv; (repeat ((first | refine ln fun _ _ _ => ?_ | refine tt ?_ | refine ff ?_ | refine wr fun _ _ => ?_ | refine wu fun _ _ => ?_ | refine rp fun _ _ _ => ?_ | refine cp fun _ => ?_ | with_reducible refine bq ?_ | refine cl ?_ | refine sd ?_ | intro _ _); cbv)); rw [hu]; rfl⟩
theorem uR4_parts (a : R4) : ∃ s l b e, uR4 a = .tup [.agg [ub s, .l l, .l b], ui e] ∧ (s, l, b, e) = a := ⟨_, _, _, _, rfl, rfl⟩
theorem uR4_bad (e : Int) : uR4 (bad e) = .tup [.agg [ub false, .l [], .l []], ui e] := rfl
theorem good_parts {s : Bool} {l b : List Int} (h : goodB (s, l, b) = true) : ∃ p : Rat, fits p = true ∧ qOf (s, l, b) = p ∧ Limbs l ∧ Limbs b ∧ cnt l ≤ 64 ∧ cnt b ≤ 64 ∧ Z s l = p.num ∧ V b = p.den ∧ V l = p.num.natAbs ∧ s = decide (p.num < 0) := by
 obtain ⟨p, hp, hq⟩ := good_iff.1 h
 obtain ⟨s', l', b', e, g⟩ := rat_parts hp
 rw [e] at hq
 injection hq with q1 q2
 injection q2 with q2 q3
 subst q1 q2 q3
 exact ⟨p, hp, by rw [← e, qOf_ratOf], g⟩
def twoR (f : R3 → R3 → R4) (us : List U) (u : U) : Prop := ∃ a b : R3, LB a ∧ LB b ∧ us = [uR a, uR b] ∧ u = uR4 (f a b)
theorem rAdd_ok : SoundF Tryz.prog 59 (twoR addS) := sound [(27, goodR), (87, crossR), (86, wAddR), (88, mul_Of.R), (85, ratofR)] (orc_cons good_ok (orc_cons cross_ok (orc_cons wAdd_ok (orc_cons mul_Of.sound (orc_cons ratof_ok orc_nil))))) Tryz.func59 (by kernel_rfl) (by kernel_rfl) fun us u hR => ⟨0, fun C E hC => by
 obtain ⟨⟨s1, l1, b1⟩, ⟨s2, l2, b2⟩, ha, hb, rfl, hu⟩ := hR
 have k1 := hC 27 goodR (by simp) _ _ ⟨_, ha, rfl, rfl⟩
 have k2 := hC 27 goodR (by simp) _ _ ⟨_, hb, rfl, rfl⟩
 clear ha hb
 unfold addS at hu
 by_cases h1 : goodB (s1, l1, b1) = true
 case neg =>
  rw [Bool.eq_false_iff.2 h1] at k1 hu
  rw [Bool.false_and, if_neg (by simp), uR4_bad] at hu
  cbv; (repeat ((first | refine ln fun _ _ _ => ?_ | refine tt ?_ | refine ff ?_ | refine wr fun _ _ => ?_ | refine wu fun _ _ => ?_ | refine rp fun _ _ _ => ?_ | refine cp fun _ => ?_ | with_reducible refine bq ?_ | refine cl ?_ | refine sd ?_ | intro _ _); cbv)); exact hu.symm
 by_cases h2 : goodB (s2, l2, b2) = true
 case neg =>
  rw [h1] at k1
  rw [Bool.eq_false_iff.2 h2] at k2 hu
  rw [Bool.and_false, if_neg (by simp), uR4_bad] at hu
  cbv; (repeat ((first | refine ln fun _ _ _ => ?_ | refine tt ?_ | refine ff ?_ | refine wr fun _ _ => ?_ | refine wu fun _ _ => ?_ | refine rp fun _ _ _ => ?_ | refine cp fun _ => ?_ | with_reducible refine bq ?_ | refine cl ?_ | refine sd ?_ | intro _ _); cbv)); exact hu.symm
 rw [h1] at k1 hu
 rw [h2] at k2 hu
 rw [Bool.true_and, if_pos rfl] at hu
 obtain ⟨p, hp, e1, f1, f2, f3, f4, f5, f6, f7, f8⟩ := good_parts h1
 obtain ⟨q, hq, e2, g1, g2, g3, g4, g5, g6, g7, g8⟩ := good_parts h2
 rw [e1, e2] at hu
 have k3 := hC 87 crossR (by simp) _ _ ⟨s1, l1, b1, s2, l2, b2, f1, g2, by omega, by omega, rfl, rfl⟩
 have k4 := hC 87 crossR (by simp) _ _ ⟨s2, l2, b2, s1, l1, b1, g1, f2, by omega, by omega, rfl, rfl⟩
 rw [f5, g6] at k3
 rw [g5, f6] at k4
 obtain ⟨n1, n2⟩ := fits_len hp
 obtain ⟨n3, n4⟩ := fits_len hq
 have m1 := len_mulZ p.num q.den
 have m2 := len_mulZ q.num p.den
 have m3 := len_mul p.den q.den
 have m4 := len_addZ (p.num * q.den) (q.num * p.den)
 rw [Int.natAbs_natCast] at m1 m2
 obtain ⟨s3, l3, k3, i1, i2⟩ := tI k3
 obtain ⟨s4, l4, k4, i3, i4⟩ := tI k4
 have z1 : Z s3 l3 = p.num * q.den := by rw [i1, i2]; exact Z_I _
 have z2 : Z s4 l4 = q.num * p.den := by rw [i3, i4]; exact Z_I _
 obtain ⟨s5, l5, k5, i5, i6⟩ := tI (hC 86 wAddR (by simp) _ _ ⟨s3, l3, s4, l4, i2 ▸ N_limbs _, i4 ▸ N_limbs _, by rw [i2, cnt_N]; omega, by rw [i4, cnt_N]; omega, rfl, rfl⟩)
 rw [z1, z2] at i5 i6
 have k6 := hC 88 mul_Of.R (by simp) _ _ (mulR f2 g2 (by omega) (by omega))
 rw [f6, g6] at k6
 obtain ⟨l6, k6, i7⟩ := tN k6
 have z3 : Z s5 l5 = p.num * q.den + q.num * p.den := by rw [i5, i6]; exact Z_I _
 have k7 := hC 85 ratofR (by simp) _ _ ⟨s5, l5, l6, i6 ▸ N_limbs _, i7 ▸ N_limbs _, by rw [i6, cnt_N]; omega, by rw [i7, cnt_N]; omega, rfl, rfl⟩
 rw [z3, i7, V_N, if_neg (Nat.mul_ne_zero p.den_nz q.den_nz), ← Rat.add_def', ← i7, ← hu] at k7
 obtain ⟨s7, l7, b7, e7, hu', _⟩ := uR4_parts (lim (p + q))
 rw [← hu] at hu'
 rw [hu'] at k7
 clear hu i1 i2 i3 i4 i5 i6 i7 z1 z2 z3 m1 m2 m3 m4 n1 n2 n3 n4 e1 e2 f1 f2 f3 f4 f5 f6 f7 f8 g1 g2 g3 g4 g5 g6 g7 g8 h1 h2 hp hq
 cbv; (repeat ((first | refine ln fun _ _ _ => ?_ | refine tt ?_ | refine ff ?_ | refine wr fun _ _ => ?_ | refine wu fun _ _ => ?_ | refine rp fun _ _ _ => ?_ | refine cp fun _ => ?_ | with_reducible refine bq ?_ | refine cl ?_ | refine sd ?_ | intro _ _); cbv)); exact hu'.symm⟩
theorem rSub_ok : SoundF Tryz.prog 60 (twoR subS) := sound [(63, rNegR), (59, twoR addS)] (orc_cons rNeg_ok (orc_cons rAdd_ok orc_nil)) Tryz.func60 (by kernel_rfl) (by kernel_rfl) fun us u hR => ⟨0, fun C E hC => by
 obtain ⟨⟨s1, l1, b1⟩, ⟨s2, l2, b2⟩, ha, hb, rfl, hu⟩ := hR
 obtain ⟨s3, l3, b3, k1, i1⟩ := tR (hC 63 rNegR (by simp) _ _ ⟨_, hb, rfl, rfl⟩)
 have k2 := hC 59 (twoR addS) (by simp) _ _ ⟨(s1, l1, b1), (s3, l3, b3), ha, i1 ▸ LR_neg.wide, rfl, rfl⟩
 rw [show addS (s1, l1, b1) (s3, l3, b3) = subS (s1, l1, b1) (s2, l2, b2) by rw [i1, sub_eq], ← hu] at k2
 obtain ⟨s7, l7, b7, e7, hu', _⟩ := uR4_parts (subS (s1, l1, b1) (s2, l2, b2))
 rw [← hu] at hu'
 rw [hu'] at k2
 clear hu i1 ha hb
 cbv; (repeat ((first | refine ln fun _ _ _ => ?_ | refine tt ?_ | refine ff ?_ | refine wr fun _ _ => ?_ | refine wu fun _ _ => ?_ | refine rp fun _ _ _ => ?_ | refine cp fun _ => ?_ | with_reducible refine bq ?_ | refine cl ?_ | refine sd ?_ | intro _ _); cbv)); exact hu'.symm⟩
theorem rMul_ok : SoundF Tryz.prog 61 (twoR mulS) := sound [(27, goodR), (89, wMulR), (88, mul_Of.R), (85, ratofR)] (orc_cons good_ok (orc_cons wMul_ok (orc_cons mul_Of.sound (orc_cons ratof_ok orc_nil)))) Tryz.func61 (by kernel_rfl) (by kernel_rfl) fun us u hR => ⟨0, fun C E hC => by
 obtain ⟨⟨s1, l1, b1⟩, ⟨s2, l2, b2⟩, ha, hb, rfl, hu⟩ := hR
 have k1 := hC 27 goodR (by simp) _ _ ⟨_, ha, rfl, rfl⟩
 have k2 := hC 27 goodR (by simp) _ _ ⟨_, hb, rfl, rfl⟩
 clear ha hb
 unfold mulS at hu
 by_cases h1 : goodB (s1, l1, b1) = true
 case neg =>
  rw [Bool.eq_false_iff.2 h1] at k1 hu
  rw [Bool.false_and, if_neg (by simp), uR4_bad] at hu
  cbv; (repeat ((first | refine ln fun _ _ _ => ?_ | refine tt ?_ | refine ff ?_ | refine wr fun _ _ => ?_ | refine wu fun _ _ => ?_ | refine rp fun _ _ _ => ?_ | refine cp fun _ => ?_ | with_reducible refine bq ?_ | refine cl ?_ | refine sd ?_ | intro _ _); cbv)); exact hu.symm
 by_cases h2 : goodB (s2, l2, b2) = true
 case neg =>
  rw [h1] at k1
  rw [Bool.eq_false_iff.2 h2] at k2 hu
  rw [Bool.and_false, if_neg (by simp), uR4_bad] at hu
  cbv; (repeat ((first | refine ln fun _ _ _ => ?_ | refine tt ?_ | refine ff ?_ | refine wr fun _ _ => ?_ | refine wu fun _ _ => ?_ | refine rp fun _ _ _ => ?_ | refine cp fun _ => ?_ | with_reducible refine bq ?_ | refine cl ?_ | refine sd ?_ | intro _ _); cbv)); exact hu.symm
 rw [h1] at k1 hu
 rw [h2] at k2 hu
 rw [Bool.true_and, if_pos rfl] at hu
 obtain ⟨p, hp, e1, f1, f2, f3, f4, f5, f6, f7, f8⟩ := good_parts h1
 obtain ⟨q, hq, e2, g1, g2, g3, g4, g5, g6, g7, g8⟩ := good_parts h2
 rw [e1, e2] at hu
 obtain ⟨n1, n2⟩ := fits_len hp
 obtain ⟨n3, n4⟩ := fits_len hq
 have m1 := len_mulZ p.num q.num
 have m3 := len_mul p.den q.den
 have k3 := hC 89 wMulR (by simp) _ _ ⟨s1, l1, s2, l2, f1, g1, by omega, by omega, rfl, rfl⟩
 rw [f5, g5] at k3
 obtain ⟨s5, l5, k3, i5, i6⟩ := tI k3
 have k6 := hC 88 mul_Of.R (by simp) _ _ (mulR f2 g2 (by omega) (by omega))
 rw [f6, g6] at k6
 obtain ⟨l6, k6, i7⟩ := tN k6
 have z3 : Z s5 l5 = p.num * q.num := by rw [i5, i6]; exact Z_I _
 have k7 := hC 85 ratofR (by simp) _ _ ⟨s5, l5, l6, i6 ▸ N_limbs _, i7 ▸ N_limbs _, by rw [i6, cnt_N]; omega, by rw [i7, cnt_N]; omega, rfl, rfl⟩
 rw [z3, i7, V_N, if_neg (Nat.mul_ne_zero p.den_nz q.den_nz), ← Rat.mul_def', ← i7, ← hu] at k7
 obtain ⟨s7, l7, b7, e7, hu', _⟩ := uR4_parts (lim (p * q))
 rw [← hu] at hu'
 rw [hu'] at k7
 clear hu i5 i6 i7 z3 m1 m3 n1 n2 n3 n4 e1 e2 f1 f2 f3 f4 f5 f6 f7 f8 g1 g2 g3 g4 g5 g6 g7 g8 h1 h2 hp hq
 cbv; (repeat ((first | refine ln fun _ _ _ => ?_ | refine tt ?_ | refine ff ?_ | refine wr fun _ _ => ?_ | refine wu fun _ _ => ?_ | refine rp fun _ _ _ => ?_ | refine cp fun _ => ?_ | with_reducible refine bq ?_ | refine cl ?_ | refine sd ?_ | intro _ _); cbv)); exact hu'.symm⟩
theorem div_sign (z : Int) (s : Bool) (l : List Int) (q : Rat) (hs : s = decide (z < 0)) (hl : l = N z.natAbs) : Z (s != decide (q.num < 0)) l = if q.num < 0 then -z else z := by
 unfold Z
 rw [hl, V_N, hs]
 by_cases z1 : z < 0 <;> by_cases z2 : q.num < 0 <;> simp [z1, z2] <;> omega
theorem rDiv_ok : SoundF Tryz.prog 62 (twoR divS) := sound [(27, goodR), (87, crossR), (88, mul_Of.R), (85, ratofR)] (orc_cons good_ok (orc_cons cross_ok (orc_cons mul_Of.sound (orc_cons ratof_ok orc_nil)))) Tryz.func62 (by kernel_rfl) (by kernel_rfl) fun us u hR => ⟨0, fun C E hC => by
 obtain ⟨⟨s1, l1, b1⟩, ⟨s2, l2, b2⟩, ha, hb, rfl, hu⟩ := hR
 have k1 := hC 27 goodR (by simp) _ _ ⟨_, ha, rfl, rfl⟩
 have k2 := hC 27 goodR (by simp) _ _ ⟨_, hb, rfl, rfl⟩
 clear ha hb
 unfold divS at hu
 by_cases h1 : goodB (s1, l1, b1) = true
 case neg =>
  rw [Bool.eq_false_iff.2 h1] at k1 hu
  rw [Bool.false_and, if_neg (by simp), uR4_bad] at hu
  cbv; (repeat ((first | refine ln fun _ _ _ => ?_ | refine tt ?_ | refine ff ?_ | refine wr fun _ _ => ?_ | refine wu fun _ _ => ?_ | refine rp fun _ _ _ => ?_ | refine cp fun _ => ?_ | with_reducible refine bq ?_ | refine cl ?_ | refine sd ?_ | intro _ _); cbv)); exact hu.symm
 by_cases h2 : goodB (s2, l2, b2) = true
 case neg =>
  rw [h1] at k1
  rw [Bool.eq_false_iff.2 h2] at k2 hu
  rw [Bool.and_false, if_neg (by simp), uR4_bad] at hu
  cbv; (repeat ((first | refine ln fun _ _ _ => ?_ | refine tt ?_ | refine ff ?_ | refine wr fun _ _ => ?_ | refine wu fun _ _ => ?_ | refine rp fun _ _ _ => ?_ | refine cp fun _ => ?_ | with_reducible refine bq ?_ | refine cl ?_ | refine sd ?_ | intro _ _); cbv)); exact hu.symm
 rw [h1] at k1 hu
 rw [h2] at k2 hu
 rw [Bool.true_and, if_pos rfl] at hu
 obtain ⟨p, hp, e1, f1, f2, f3, f4, f5, f6, f7, f8⟩ := good_parts h1
 obtain ⟨q, hq, e2, g1, g2, g3, g4, g5, g6, g7, g8⟩ := good_parts h2
 rw [e1, e2] at hu
 have k3 := hC 87 crossR (by simp) _ _ ⟨s1, l1, b1, s2, l2, b2, f1, g2, by omega, by omega, rfl, rfl⟩
 rw [f5, g6] at k3
 obtain ⟨n1, n2⟩ := fits_len hp
 obtain ⟨n3, n4⟩ := fits_len hq
 have m1 := len_mulZ p.num q.den
 have m3 := len_mul p.den q.num.natAbs
 rw [Int.natAbs_natCast] at m1
 obtain ⟨s3, l3, k3, i1, i2⟩ := tI k3
 have k6 := hC 88 mul_Of.R (by simp) _ _ (mulR f2 g1 (by omega) (by omega))
 rw [f6, g7] at k6
 obtain ⟨l6, k6, i7⟩ := tN k6
 have k7 := hC 85 ratofR (by simp) _ _ ⟨s3 != s2, l3, l6, i2 ▸ N_limbs _, i7 ▸ N_limbs _, by rw [i2, cnt_N]; omega, by rw [i7, cnt_N]; omega, rfl, rfl⟩
 have z3 := div_sign (p.num * q.den) s3 l3 q i1 i2
 rw [← g8] at z3
 have hd : (if V l6 = 0 then bad 3 else lim (mkRat (Z (s3 != s2) l3) (V l6))) = (if q = 0 then bad 3 else lim (p / q)) := by
  rw [z3, i7, V_N]
  by_cases hz : q.num = 0
  ·have : q = 0 := Rat.num_eq_zero.1 hz
   rw [if_pos (by rw [hz]; simp), if_pos this]
  ·rw [if_neg (Nat.mul_ne_zero p.den_nz (by omega)), if_neg (show ¬ q = 0 from fun h => hz (by rw [h]; rfl)), div_mk p q hz]
 rw [hd, ← hu] at k7
 obtain ⟨s7, l7, b7, e7, hu', _⟩ := uR4_parts (if q = 0 then bad 3 else lim (p / q))
 rw [← hu] at hu'
 rw [hu'] at k7
 clear hu hd i1 i2 i7 z3 m1 m3 n1 n2 n3 n4 e1 e2 f1 f2 f3 f4 f5 f6 f7 f8 g1 g2 g3 g4 g5 g6 g7 g8 h1 h2 hp hq
 cases s3 <;> cases s2 <;> cbv <;> (repeat ((first | refine ln fun _ _ _ => ?_ | refine tt ?_ | refine ff ?_ | refine wr fun _ _ => ?_ | refine wu fun _ _ => ?_ | refine rp fun _ _ _ => ?_ | refine cp fun _ => ?_ | with_reducible refine bq ?_ | refine cl ?_ | refine sd ?_ | intro _ _); cbv)) <;> exact hu'.symm⟩
theorem powR {a : List Int} (ha : Limbs a) (h1 : cnt a ≤ 1000000) {n : Int} {e : Nat} (hn : n = e) (he : e ≤ 1000) : mul_Pow.R [.l a, ui n] (.tup [.l (if len (V a ^ e) ≤ 256 then N (V a ^ e) else []), ub (decide (len (V a ^ e) ≤ 256))]) := by
 obtain ⟨k, hk⟩ := (pow_tells ha (by unfold cnt at h1; omega) e (by omega)).rounds
 subst hn
 by_cases h : len (V a ^ e) ≤ 256
 ·rw [if_pos h] at hk; rw [if_pos h, decide_eq_true h]; exact ⟨k, _, _, _, _, rfl, hk, rfl⟩
 ·rw [if_neg h] at hk; rw [if_neg h, decide_eq_false h]; exact ⟨k, _, _, _, _, rfl, hk, rfl⟩
theorem withinR (n : Int) : power_within.R [ui n, ui 128] (ub (decide (-128 ≤ n ∧ n ≤ 128))) := ⟨_, _, _, rfl, within_tells n 128 (by omega) (by omega), rfl⟩
def turnedR (us : List U) (u : U) : Prop := ∃ a : R3, LB a ∧ us = [uR a] ∧ u = uR4 (divS (ratOf 1) a)
theorem turned_ok : SoundF Tryz.prog 93 turnedR := sound [(92, rWholeR), (62, twoR divS)] (orc_cons rWhole_ok (orc_cons rDiv_ok orc_nil)) Tryz.func93 (by kernel_rfl) (by kernel_rfl) fun us u hR => ⟨0, fun C E hC => by
 obtain ⟨⟨s2, l2, b2⟩, hb, rfl, hu⟩ := hR
 have k1 := hC 92 rWholeR (by simp) _ _ ⟨1, by omega, by omega, rfl, rfl⟩
 rw [show ((1 : Int) : Rat) = 1 from rfl] at k1
 have h1 : LB (ratOf 1) := (LR_ratOf (by decide +kernel)).wide
 obtain ⟨s1, l1, b1, k1, e⟩ := tR k1
 rw [← e] at h1 hu
 have k2 := hC 62 (twoR divS) (by simp) _ _ ⟨(s1, l1, b1), (s2, l2, b2), h1, hb, rfl, rfl⟩
 obtain ⟨s7, l7, b7, e7, hu', _⟩ := uR4_parts (divS (s1, l1, b1) (s2, l2, b2))
 rw [hu'] at k2 hu
 clear e h1 hb
 cbv; (repeat ((first | refine ln fun _ _ _ => ?_ | refine tt ?_ | refine ff ?_ | refine wr fun _ _ => ?_ | refine wu fun _ _ => ?_ | refine rp fun _ _ _ => ?_ | refine cp fun _ => ?_ | with_reducible refine bq ?_ | refine cl ?_ | refine sd ?_ | intro _ _); cbv)); exact hu.symm⟩
theorem turnS {p : Rat} (hp : fits p = true) : divS (ratOf 1) (ratOf p) = if p = 0 then bad 3 else ((ratOf p⁻¹).1, (ratOf p⁻¹).2.1, (ratOf p⁻¹).2.2, 0) := by
 have k1 : fits (1 : Rat) = true := by decide +kernel
 unfold divS
 rw [good_ratOf k1, good_ratOf hp, qOf_ratOf, qOf_ratOf]
 by_cases h : p = 0
 ·rw [if_pos h, if_pos h]
  rfl
 ·rw [if_neg h, if_neg h, Rat.div_def, Rat.one_mul]
  unfold lim
  rw [if_pos (fits_inv hp h)]
  rfl
def powPosR (us : List U) (u : U) : Prop := ∃ (p : Rat) (e : Nat) (n : Int), fits p = true ∧ n = e ∧ 0 < n ∧ n ≤ 128 ∧ us = [uR (ratOf p), ui n] ∧ u = uR4 (lim (p ^ e))
theorem powPos_ok : SoundF Tryz.prog 64 powPosR := sound [(27, goodR), (91, power_within.R), (94, mul_Pow.R), (85, ratofR)] (orc_cons good_ok (orc_cons power_within.sound (orc_cons mul_Pow.sound (orc_cons ratof_ok orc_nil)))) Tryz.func64 (by kernel_rfl) (by kernel_rfl) fun us u hR => ⟨0, fun C E hC => by
 obtain ⟨p, e, n, hp, hn, h0, h1, rfl, hu⟩ := hR
 have k1 := hC 27 goodR (by simp) _ _ ⟨_, (LR_ratOf hp).wide, rfl, rfl⟩
 rw [good_ratOf hp] at k1
 have k2 := hC 91 power_within.R (by simp) _ _ (withinR n)
 rw [decide_eq_true (by omega)] at k2
 have sg := pow_sign p e (by omega) (by omega)
 rw [show Int.tmod (e : Int) 2 = Int.tmod n 2 by rw [hn]] at sg
 obtain ⟨s, l, b, eq, g1, g2, g3, g4, g5, g6, g7, g8⟩ := rat_parts hp
 rw [eq] at k1 sg ⊢
 have k3 := hC 94 mul_Pow.R (by simp) _ _ (powR g1 (by omega) hn (by omega))
 have k4 := hC 94 mul_Pow.R (by simp) _ _ (powR g2 (by omega) hn (by omega))
 rw [g7] at k3
 rw [g6] at k4
 by_cases hA : len (p.num.natAbs ^ e) ≤ 256
 case neg =>
  rw [if_neg hA, decide_eq_false hA] at k3
  rw [pow_far p e (Or.inl hA)] at hu
  generalize (if len (p.den ^ e) ≤ 256 then N (p.den ^ e) else []) = l4 at *
  clear sg eq g1 g2 g3 g4 g5 g6 g7 g8 hn hp hA
  generalize decide (len (p.den ^ e) ≤ 256) = t4 at *
  cases t4 <;> cbv <;> (repeat ((first | refine ln fun _ _ _ => ?_ | refine tt ?_ | refine ff ?_ | refine wr fun _ _ => ?_ | refine wu fun _ _ => ?_ | refine rp fun _ _ _ => ?_ | refine cp fun _ => ?_ | with_reducible refine bq ?_ | refine cl ?_ | refine sd ?_ | intro _ _); cbv)) <;> exact hu.symm
 by_cases hB : len (p.den ^ e) ≤ 256
 case neg =>
  rw [if_pos hA, decide_eq_true hA] at k3
  rw [if_neg hB, decide_eq_false hB] at k4
  rw [pow_far p e (Or.inr hB)] at hu
  generalize N (p.num.natAbs ^ e) = l3 at *
  clear sg eq g1 g2 g3 g4 g5 g6 g7 g8 hn hp hA hB
  cbv; (repeat ((first | refine ln fun _ _ _ => ?_ | refine tt ?_ | refine ff ?_ | refine wr fun _ _ => ?_ | refine wu fun _ _ => ?_ | refine rp fun _ _ _ => ?_ | refine cp fun _ => ?_ | with_reducible refine bq ?_ | refine cl ?_ | refine sd ?_ | intro _ _); cbv)); exact hu.symm
 rw [if_pos hA, decide_eq_true hA] at k3
 rw [if_pos hB, decide_eq_true hB] at k4
 have k5 := hC 85 ratofR (by simp) _ _ ⟨s && (Int.tmod n 2 == 1), N (p.num.natAbs ^ e), N (p.den ^ e), N_limbs _, N_limbs _, by rw [cnt_N]; omega, by rw [cnt_N]; omega, rfl, rfl⟩
 rw [sg, V_N, if_neg (Nat.ne_of_gt (Nat.pow_pos (Nat.pos_of_ne_zero p.den_nz))), pow_mk, ← hu] at k5
 obtain ⟨s7, l7, b7, e7, hu', _⟩ := uR4_parts (lim (p ^ e))
 rw [← hu] at hu'
 rw [hu'] at k5
 have c4 : cnt (N (p.den ^ e)) ≤ 256 := by rw [cnt_N]; omega
 generalize N (p.num.natAbs ^ e) = l3 at *
 generalize N (p.den ^ e) = l4 at *
 clear hu sg eq g1 g2 g3 g4 g5 g6 g7 g8 hn hp hA hB
 by_cases ht : Int.tmod n 2 = 1
 ·rw [ht] at k5
  cases s <;> cbv <;> (repeat ((first | refine ln fun _ _ _ => ?_ | refine tt ?_ | refine ff ?_ | refine wr fun _ _ => ?_ | refine wu fun _ _ => ?_ | refine rp fun _ _ _ => ?_ | refine cp fun _ => ?_ | with_reducible refine bq ?_ | refine cl ?_ | refine sd ?_ | intro _ _); cbv)) <;> exact hu'.symm
 ·rw [show (Int.tmod n 2 == 1) = false by simpa using ht] at k5
  cases s <;> cbv <;> (repeat ((first | refine ln fun _ _ _ => ?_ | refine tt ?_ | refine ff ?_ | refine wr fun _ _ => ?_ | refine wu fun _ _ => ?_ | refine rp fun _ _ _ => ?_ | refine cp fun _ => ?_ | with_reducible refine bq ?_ | refine cl ?_ | refine sd ?_ | intro _ _); cbv)) <;> exact hu'.symm⟩
def powOfR (us : List U) (u : U) : Prop := ∃ (a : R3) (n : Int), LB a ∧ -9223372036854775808 ≤ n ∧ n ≤ 9223372036854775807 ∧ us = [uR a, ui n] ∧ u = uR4 (powS a n)
theorem power_ok : SoundF Tryz.prog 64 powOfR := by
 have main := sound (f := 64) (R := fun us u => ∃ (a : R3) (n : Int), LB a ∧ ¬ (goodB a = true ∧ 0 < n ∧ n ≤ 128) ∧ -9223372036854775808 ≤ n ∧ n ≤ 9223372036854775807 ∧ us = [uR a, ui n] ∧ u = uR4 (powS a n)) [(27, goodR), (91, power_within.R), (92, rWholeR), (93, turnedR), (64, powPosR)] (orc_cons good_ok (orc_cons power_within.sound (orc_cons rWhole_ok (orc_cons turned_ok (orc_cons powPos_ok orc_nil))))) Tryz.func64 (by kernel_rfl) (by kernel_rfl) fun us u hR => ⟨0, fun C E hC => by
  obtain ⟨⟨s, l, b⟩, n, ha, hno, h0, h1, rfl, hu⟩ := hR
  have k1 := hC 27 goodR (by simp) _ _ ⟨_, ha, rfl, rfl⟩
  have k2 := hC 91 power_within.R (by simp) _ _ (withinR n)
  unfold powS at hu
  by_cases hg : goodB (s, l, b) = true
  case neg =>
   rw [if_neg hg] at hu
   rw [Bool.eq_false_iff.2 hg] at k1
   clear hno
   cbv; (repeat ((first | refine ln fun _ _ _ => ?_ | refine tt ?_ | refine ff ?_ | refine wr fun _ _ => ?_ | refine wu fun _ _ => ?_ | refine rp fun _ _ _ => ?_ | refine cp fun _ => ?_ | with_reducible refine bq ?_ | refine cl ?_ | refine sd ?_ | intro _ _); cbv)); exact hu.symm
  rw [if_pos hg] at hu
  rw [hg] at k1
  by_cases hw : -128 ≤ n ∧ n ≤ 128
  case neg =>
   rw [if_neg hw] at hu
   rw [decide_eq_false hw] at k2
   clear hno
   cbv; (repeat ((first | refine ln fun _ _ _ => ?_ | refine tt ?_ | refine ff ?_ | refine wr fun _ _ => ?_ | refine wu fun _ _ => ?_ | refine rp fun _ _ _ => ?_ | refine cp fun _ => ?_ | with_reducible refine bq ?_ | refine cl ?_ | refine sd ?_ | intro _ _); cbv)); exact hu.symm
  rw [if_pos hw] at hu
  rw [decide_eq_true hw] at k2
  by_cases hz : n = 0
  ·subst hz
   rw [if_neg (by omega), Rat.zpow_zero] at hu
   obtain ⟨s1, l1, b1, k3, e3⟩ := tR (hC 92 rWholeR (by simp) _ _ ⟨1, by omega, by omega, rfl, rfl⟩)
   rw [lim_fits (show fits 1 = true by decide +kernel), show (1 : Rat) = ((1 : Int) : Rat) from rfl, ← e3] at hu
   clear hno
   cbv; (repeat ((first | refine ln fun _ _ _ => ?_ | refine tt ?_ | refine ff ?_ | refine wr fun _ _ => ?_ | refine wu fun _ _ => ?_ | refine rp fun _ _ _ => ?_ | refine cp fun _ => ?_ | with_reducible refine bq ?_ | refine cl ?_ | refine sd ?_ | intro _ _); cbv)); exact hu.symm
  have hn : n < 0 := by
   rcases Int.lt_trichotomy n 0 with h | h | h
   ·exact h
   ·exact absurd h hz
   ·exact absurd ⟨hg, h, hw.2⟩ hno
  clear hno
  obtain ⟨p, hp, e1, hq⟩ := good_parts hg
  have hr : (s, l, b) = ratOf p := by
   obtain ⟨p', hp', hq'⟩ := good_iff.1 hg
   rw [hq', ← e1, hq', qOf_ratOf]
  rw [e1] at hu
  have k3 := hC 93 turnedR (by simp) _ _ ⟨(s, l, b), ha, rfl, rfl⟩
  rw [show divS (ratOf 1) (s, l, b) = if p = 0 then bad 3 else ((ratOf p⁻¹).1, (ratOf p⁻¹).2.1, (ratOf p⁻¹).2.2, 0) by rw [hr, turnS hp]] at k3
  by_cases hp0 : p = 0
  ·rw [if_pos ⟨hn, hp0⟩] at hu
   rw [if_pos hp0] at k3
   clear hr hp hq e1
   cbv; (repeat ((first | refine ln fun _ _ _ => ?_ | refine tt ?_ | refine ff ?_ | refine wr fun _ _ => ?_ | refine wu fun _ _ => ?_ | refine rp fun _ _ _ => ?_ | refine cp fun _ => ?_ | with_reducible refine bq ?_ | refine cl ?_ | refine sd ?_ | intro _ _); cbv)); exact hu.symm
  ·rw [if_neg (fun hh => hp0 hh.2)] at hu
   rw [if_neg hp0] at k3
   obtain ⟨e, hne⟩ : ∃ e : Nat, -n = (e : Int) := ⟨n.natAbs, by omega⟩
   have k4 := hC 64 powPosR (by simp) _ _ ⟨p⁻¹, e, -n, fits_inv hp hp0, hne, by omega, by omega, rfl, rfl⟩
   rw [inv_pow, show (p ^ e)⁻¹ = p ^ n by rw [show n = -(e : Int) by omega, Rat.zpow_neg, Rat.zpow_natCast], ← hu] at k4
   obtain ⟨s7, l7, b7, e7, hu', _⟩ := uR4_parts (lim (p ^ n))
   rw [← hu] at hu'
   rw [hu'] at k4
   obtain ⟨s8, l8, b8, h8⟩ : ∃ s l b, ratOf p⁻¹ = (s, l, b) := ⟨_, _, _, rfl⟩
   rw [h8] at k3 k4
   clear hu hr hp hq e1 h8 hne
   have k4 : ∀ r, r = -n → C 64 [.agg [ub s8, .l l8, .l b8], ui r] (U.tup [U.agg [ub s7, U.l l7, U.l b7], ui e7]) := fun r hr => by rw [hr]; exact k4
   cbv
   repeat ((first | refine tt ?_ | refine ff ?_ | refine cl ?_ | with_reducible refine bq ?_ | refine wr fun r hr => (have k5 := k4 r hr; ?_)); cbv)
   exact hu'.symm⟩
 intro us u hR
 obtain ⟨a, n, ha, h0, h1, rfl, rfl⟩ := hR
 by_cases hpos : goodB a = true ∧ 0 < n ∧ n ≤ 128
 ·refine powPos_ok _ _ ?_
  obtain ⟨x1, x2, x3⟩ := hpos
  obtain ⟨p, hp, rfl⟩ := good_iff.1 x1
  obtain ⟨e, rfl⟩ : ∃ e : Nat, n = (e : Int) := ⟨n.natAbs, by omega⟩
  refine ⟨p, e, e, hp, rfl, x2, x3, rfl, ?_⟩
  unfold powS
  rw [if_pos x1, if_pos ⟨by omega, x3⟩, if_neg (by omega), qOf_ratOf, Rat.zpow_natCast]
 ·exact main _ _ ⟨a, n, ha, hpos, h0, h1, rfl, rfl⟩
def ownR (us : List U) (u : U) : Prop := ∃ a : R3, LB a ∧ us = [uR a] ∧ u = uR (ownS a)
theorem own_ok : SoundF Tryz.prog 58 ownR := sound [(63, rNegR)] (orc_cons rNeg_ok orc_nil) Tryz.func58 (by kernel_rfl) (by kernel_rfl) fun us u hR => ⟨0, fun C E hC => by
 obtain ⟨⟨s, l, d⟩, ha, rfl, hu⟩ := hR
 obtain ⟨s1, l1, d1, k1, i1⟩ := tR (hC 63 rNegR (by simp) _ _ ⟨_, ha, rfl, rfl⟩)
 have k2 := hC 63 rNegR (by simp) _ _ ⟨(s1, l1, d1), i1 ▸ LB_neg _, rfl, rfl⟩
 rw [show negS (s1, l1, d1) = ownS (s, l, d) by rw [i1]; rfl, ← hu] at k2
 obtain ⟨s2, l2, d2, hu', _⟩ : ∃ s l b, u = .agg [ub s, .l l, .l b] ∧ True := ⟨_, _, _, hu, trivial⟩
 rw [hu'] at k2
 clear hu i1 ha
 cbv; (repeat ((first | refine ln fun _ _ _ => ?_ | refine tt ?_ | refine ff ?_ | refine wr fun _ _ => ?_ | refine rp fun _ _ _ => ?_ | with_reducible refine bq ?_ | refine cl ?_ | refine sd ?_ | intro _ _); cbv)); exact hu'.symm⟩
theorem refs_iff {c : List Tm} {nd : List Bool} {n : Int} : refsB c nd n = true ↔ ∀ (j : Nat) t, c[j]? = some t → nd[j]? = some true → t.k = 2 → t.n < n := by
 unfold refsB
 rw [List.all_eq_true]
 constructor
 ·intro h j t ht hb hk
  have := h j (List.mem_range.2 (List.getElem?_eq_some_iff.1 ht).1)
  rw [ht] at this
  simp only [hb, beq_self_eq_true, hk, decide_true, Bool.true_and, Bool.not_eq_true', decide_eq_false_iff_not] at this
  omega
 ·intro h j hj
  cases ht : c[j]? with
  | none => rfl
  | some t =>
   show (!(nd[j]? == some true && decide (t.k = 2) && decide (n ≤ t.n))) = true
   by_cases hb : nd[j]? = some true
   ·by_cases hk : t.k = 2
    ·have := h j t ht hb hk
     simp only [hb, beq_self_eq_true, hk, decide_true, Bool.true_and, Bool.not_eq_true', decide_eq_false_iff_not]
     omega
    ·simp [hk]
   ·simp [hb]
theorem needs_len (c : List Tm) (i : Nat) : cnt (needs c i) = cnt c := by unfold needs cnt; rw [down_len, List.length_set, List.length_replicate]
theorem cnt_eq {α β : Type} {a : List α} {b : List β} (h : cnt a = cnt b) : a.length = b.length := by unfold cnt at h; omega
abbrev EnV (r : Nat) (C : Orc) (E E' : Ent) : Prop := Enters r [34, 35, 57, 36] C [(34, Tryz.f34), (35, Tryz.f35), (57, Tryz.f57), (36, Tryz.f36)] E E'
theorem made_in {C : Orc} {E E' : Ent} {r : Nat} (hE : EnV r C E E')
  (kN : Told C 20 needsR) (kG : Told C 27 goodR) {c : List Tm} {i : Int} {xs : List R3} (hq : ∀ t ∈ c, LB t.q) (hn : cnt c ≤ 1000000) (hx : ∀ a ∈ xs, LB a) (hxn : cnt xs ≤ 1000000) (hr : (cnt c).toNat + (cnt xs).toNat + 10 < r) {k : U → Heap → Prop}
  (h1 : madeB c i xs = true → k (.tup [.ptr 2 0, ub true]) [some (.cells [ub false, .l [], .l []]), some (.row 3 ((List.replicate c.length none3).map qU)), some (.cells [cU c, .s 1 (uB (needs c i.toNat)), qsU xs, .sl 1 (cnt c) (cnt c) 3, ui 0])])
  (h2 : madeB c i xs = false → ∀ h, k (.tup [.v (.pointer none), ub false]) (some (.cells [ub false, .l [], .l []]) :: h)) : E' 34 [cU c, ui i, qsU xs] [some (.cells [ub false, .l [], .l []])] k := by
 refine hE 34 Tryz.f34 (by simp) _ _ _ ?_
 have k1 := kN _ _ ⟨c, i, hq, hn, rfl, rfl⟩
 have kg : ∀ (j : Int) a, 0 ≤ j → xs[j.toNat]? = some a → C 27 [.agg (qU a)] (ub (goodB a)) := fun j a h0 ha => kG _ _ ⟨a, hx a (List.mem_of_getElem? ha), rfl, rfl⟩
 have hcn := fun i (h0 : 0 ≤ i) (h1 : i < cnt c) => nth_map (c := c) tU h0 h1
 have hxm := fun i (h0 : 0 ≤ i) (h1 : i < cnt xs) => nth_map (c := xs) qU h0 h1
 have hc := cnt_map c tU
 have hxc := cnt_map xs qU
 have hc0 := cnt0 c
 have hx0 := cnt0 xs
 have hnl := needs_len c i.toNat
 unfold madeB at h1 h2
 unfold needsU at k1
 rw [List.map_replicate] at h1
 clear kN kG hx hq
 unfold cU qsU at *
 generalize c.map tU = cs at *
 generalize xs.map qU = ys at *
 cases hmc : mayC c i
 ·rw [hmc, if_neg (by simp)] at k1
  rw [hmc, Bool.false_and, Bool.false_and] at h2
  have h2 := h2 rfl
  clear h1
  cbv
  (repeat ((first | refine ln fun _ _ _ => ?_ | refine tt ?_ | refine ff ?_ | refine wr fun _ _ => ?_ | refine rp fun _ _ _ => ?_ | with_reducible refine bq ?_ | refine cl ?_ | refine sd ?_ | intro _ _); cbv))
  exact h2 _
 rw [hmc, if_pos rfl] at k1
 rw [hmc, Bool.true_and] at h1 h2
 generalize needs c i.toNat = nd at *
 have hnx := fun j (h0 : 0 ≤ j) (h1 : j < cnt nd) => uB_nth (s := nd) h0 h1
 have hnn : uB nd ≠ [] := by
  unfold mayC at hmc
  simp only [Bool.and_eq_true, decide_eq_true_eq] at hmc
  unfold uB
  intro h
  rw [List.map_eq_nil_iff] at h
  rw [h] at hnl
  have : cnt ([] : List Bool) = 0 := rfl
  omega
 generalize uB nd = nds at *
 obtain ⟨y, nds', hns⟩ := List.exists_cons_of_ne_nil hnn
 clear hnn
 obtain ⟨nd2, hnd2⟩ : ∃ nd2, nd2 = nds := ⟨_, rfl⟩
 rw [← hnd2] at h1 hnx
 subst hns
 cbv
 (repeat ((first | refine ln fun _ _ _ => ?_ | refine tt ?_ | refine ff ?_ | refine wr fun _ _ => ?_ | refine rp fun _ _ _ => ?_ | with_reducible refine bq ?_ | refine cl ?_ | refine sd ?_ | intro _ _); cbv))
 rename_i n hn1 hn2 rs hrs hrc nx hx1 hx2
 refine lets [0, 2, 8, 28, 29, 30] ?_
 cbv
 refine loop_inv (fun j a h => ∃ q : Int, 0 ≤ q ∧ q ≤ cnt xs ∧ j = (cnt xs - q).toNat ∧ (∀ (p : Nat) z, (p : Int) < q → xs[p]? = some z → goodB z = true) ∧ a = [.s 7 cs, .lost, .s 3 ys, .lost, .lost, .lost, .lost, .lost, .ptr 2 0, .lost, .lost, .lost, .lost, .lost, .lost, .lost, .lost, .lost, .lost, .lost, .lost, .lost, .lost, .lost, .lost, .lost, .lost, .lost, .s 3 ys, ui nx, ui q, .lost, .lost, .lost, .lost, .lost, .lost, .lost, .lost, .lost, .lost, .lost, .lost, .lost, .lost, .lost, .lost, .lost, .lost, .lost, .lost, .lost, .lost, .lost, .lost, .lost, .lost, .lost, .lost, .lost, .lost, .lost, .lost, .lost, .lost, .lost] ∧ h = [some (.cells [ub false, .l [], .l []]), some (.row 3 rs), some (.cells [.s 7 cs, .s 1 nd2, .s 3 ys, .sl 1 n n 3, ui 0])]) ?_ r (cnt xs).toNat _ _ (by omega) ⟨0, by omega, by omega, by omega, fun p z hp _ => absurd hp (by omega), rfl, by rw [hnd2]⟩
 rintro j a h K ⟨q, q0, q1, hj, hg, rfl, rfl⟩ hK
 rcases Decidable.em (q < cnt xs) with hlt | hlt
 ·obtain ⟨⟨s, l, d⟩, hz, hy⟩ := hxm q q0 hlt
  have k2 := kg q _ q0 hz
  have hg' : goodB (s, l, d) = true → ∀ (p : Nat) z, (p : Int) < q + 1 → xs[p]? = some z → goodB z = true := fun hb p z hp hz' => by
   by_cases e : (p : Int) = q
   ·have : p = q.toNat := by omega
    rw [this, hz] at hz'
    injection hz' with hz'
    rw [← hz']
    exact hb
   ·exact hg p z (by omega) hz'
  have hg2 : goodB (s, l, d) = false → xs.all goodB = false := fun hb => by
   rw [Bool.eq_false_iff, Ne, List.all_eq_true]
   intro hh
   rw [hh _ (List.mem_of_getElem? hz)] at hb
   cases hb
  generalize goodB (s, l, d) = g at k2 hg' hg2
  cases g
  ·rw [hg2 rfl, Bool.false_and] at h2
   have h2 := h2 rfl
   clear hg' hg2 hg h1
   cbv
   (repeat ((first | refine ln fun _ _ _ => ?_ | refine tt ?_ | refine ff ?_ | refine wr fun _ _ => ?_ | refine rp fun _ _ _ => ?_ | with_reducible refine bq ?_ | refine cl ?_ | refine sd ?_ | intro _ _); cbv))
   refine el ?_ (by omega) hy
   cbv
   (repeat ((first | refine ln fun _ _ _ => ?_ | refine tt ?_ | refine ff ?_ | refine wr fun _ _ => ?_ | refine rp fun _ _ _ => ?_ | with_reducible refine bq ?_ | refine cl ?_ | refine sd ?_ | intro _ _); cbv))
   exact h2 _
  ·clear hg2
   cbv
   (repeat ((first | refine ln fun _ _ _ => ?_ | refine tt ?_ | refine ff ?_ | refine wr fun _ _ => ?_ | refine rp fun _ _ _ => ?_ | with_reducible refine bq ?_ | refine cl ?_ | refine sd ?_ | intro _ _); cbv))
   refine el ?_ (by omega) hy
   cbv
   (repeat ((first | refine ln fun _ _ _ => ?_ | refine tt ?_ | refine ff ?_ | refine wr fun _ _ => ?_ | refine rp fun _ _ _ => ?_ | with_reducible refine bq ?_ | refine cl ?_ | refine sd ?_ | intro _ _); cbv))
   rename_i q' hq'
   refine lets [0, 2, 8, 28, 29, 30] ?_
   exact hK (cnt xs - (q + 1)).toNat _ _ (by omega) ⟨q + 1, by omega, by omega, rfl, hg' rfl, by rw [hq']; rfl, rfl⟩
 have hall : xs.all goodB = true := List.all_eq_true.2 fun z hz => by
  obtain ⟨p, hp, rfl⟩ := List.mem_iff_getElem.1 hz
  exact hg p _ (by unfold cnt at hlt; omega) (List.getElem?_eq_getElem hp)
 rw [hall, Bool.true_and] at h1 h2
 clear hg hall kg hxm
 cbv
 (repeat ((first | refine ln fun _ _ _ => ?_ | refine tt ?_ | refine ff ?_ | refine wr fun _ _ => ?_ | refine rp fun _ _ _ => ?_ | with_reducible refine bq ?_ | refine cl ?_ | refine sd ?_ | intro _ _); cbv))
 rename_i nc hnc1 hnc2
 refine lets [0, 2, 8, 38, 39, 40] ?_
 cbv
 refine loop_inv (fun j a h => ∃ q : Int, 0 ≤ q ∧ q ≤ cnt c ∧ j = (cnt c - q).toNat ∧ (∀ (p : Nat) t, (p : Int) < q → c[p]? = some t → nd[p]? = some true → t.k = 2 → t.n < cnt xs) ∧ a = [.s 7 cs, .lost, .s 3 ys, .lost, .lost, .lost, .lost, .lost, .ptr 2 0, .lost, .lost, .lost, .lost, .lost, .lost, .lost, .lost, .lost, .lost, .lost, .lost, .lost, .lost, .lost, .lost, .lost, .lost, .lost, .lost, .lost, .lost, .lost, .lost, .lost, .lost, .lost, .lost, .lost, .s 7 cs, ui nc, ui q, .lost, .lost, .lost, .lost, .lost, .lost, .lost, .lost, .lost, .lost, .lost, .lost, .lost, .lost, .lost, .lost, .lost, .lost, .lost, .lost, .lost, .lost, .lost, .lost, .lost] ∧ h = [some (.cells [ub false, .l [], .l []]), some (.row 3 rs), some (.cells [.s 7 cs, .s 1 nd2, .s 3 ys, .sl 1 n n 3, ui 0])]) ?_ r (cnt c).toNat _ _ (by omega) ⟨0, by omega, by omega, by omega, fun p z hp _ => absurd hp (by omega), rfl, rfl⟩
 rintro j2 a h K2 ⟨q, q0, q1, hj2, hg, rfl, rfl⟩ hK2
 clear hK
 rcases Decidable.em (q < cnt c) with hlt | hlt
 ·obtain ⟨⟨kd, ta, tb, m, s, l, d⟩, ht, hy⟩ := hcn q q0 hlt
  obtain ⟨b, hb, hz⟩ := hnx q q0 (by omega)
  have hg' : (b = true → kd = 2 → m < cnt xs) → ∀ (p : Nat) t, (p : Int) < q + 1 → c[p]? = some t → nd[p]? = some true → t.k = 2 → t.n < cnt xs := fun hh p t hp ht' hb' hk => by
   by_cases e : (p : Int) = q
   ·have : p = q.toNat := by omega
    subst this
    rw [ht] at ht'
    injection ht' with ht'
    subst ht'
    rw [hb] at hb'
    injection hb' with hb'
    exact hh hb' hk
   ·exact hg p t (by omega) ht' hb' hk
  have hg2 : b = true → kd = 2 → ¬ m < cnt xs → refsB c nd (cnt xs) = false := fun e1 e2 e3 => by
   rw [Bool.eq_false_iff]
   intro hh
   exact e3 (refs_iff.1 hh q.toNat _ ht (by rw [hb, e1]) e2)
  clear hg hcn hnx ht hb
  cbv
  (repeat ((first | refine ln fun _ _ _ => ?_ | refine tt ?_ | refine ff ?_ | refine wr fun _ _ => ?_ | refine rp fun _ _ _ => ?_ | with_reducible refine bq ?_ | refine cl ?_ | refine sd ?_ | intro _ _); cbv))
  refine el ?_ (by omega) hy
  cbv
  (repeat ((first | refine ln fun _ _ _ => ?_ | refine tt ?_ | refine ff ?_ | refine wr fun _ _ => ?_ | refine rp fun _ _ _ => ?_ | with_reducible refine bq ?_ | refine cl ?_ | refine sd ?_ | intro _ _); cbv))
  refine el ?_ (by omega) hz
  clear hy hz
  cases b
  ·cbv
   (repeat ((first | refine ln fun _ _ _ => ?_ | refine tt ?_ | refine ff ?_ | refine wr fun _ _ => ?_ | refine rp fun _ _ _ => ?_ | with_reducible refine bq ?_ | refine cl ?_ | refine sd ?_ | intro _ _); cbv))
   rename_i q' hq'
   refine lets [0, 2, 8, 38, 39, 40] ?_
   exact hK2 (cnt c - (q + 1)).toNat _ _ (by omega) ⟨q + 1, by omega, by omega, rfl, hg' (fun e => by cases e), by rw [hq']; rfl, rfl⟩
  rcases Decidable.em (kd = 2) with h3 | h3
  ·rcases Decidable.em (m < cnt xs) with h4 | h4
   ·clear hg2
    cbv
    (repeat ((first | refine ln fun _ _ _ => ?_ | refine tt ?_ | refine ff ?_ | refine wr fun _ _ => ?_ | refine rp fun _ _ _ => ?_ | with_reducible refine bq ?_ | refine cl ?_ | refine sd ?_ | intro _ _); cbv))
    rename_i q' hq'
    refine lets [0, 2, 8, 38, 39, 40] ?_
    exact hK2 (cnt c - (q + 1)).toNat _ _ (by omega) ⟨q + 1, by omega, by omega, rfl, hg' (fun _ _ => h4), by rw [hq']; rfl, rfl⟩
   ·have h2 := h2 (hg2 rfl h3 h4)
    clear hg2 hg' h1 hK2
    cbv
    (repeat ((first | refine ln fun _ _ _ => ?_ | refine tt ?_ | refine ff ?_ | refine wr fun _ _ => ?_ | refine rp fun _ _ _ => ?_ | with_reducible refine bq ?_ | refine cl ?_ | refine sd ?_ | intro _ _); cbv))
    exact h2 _
  ·clear hg2
   cbv
   (repeat ((first | refine ln fun _ _ _ => ?_ | refine tt ?_ | refine ff ?_ | refine wr fun _ _ => ?_ | refine rp fun _ _ _ => ?_ | with_reducible refine bq ?_ | refine cl ?_ | refine sd ?_ | intro _ _); cbv))
   rename_i q' hq'
   refine lets [0, 2, 8, 38, 39, 40] ?_
   exact hK2 (cnt c - (q + 1)).toNat _ _ (by omega) ⟨q + 1, by omega, by omega, rfl, hg' (fun _ e => absurd e h3), by rw [hq']; rfl, rfl⟩
 ·have h1 := h1 (refs_iff.2 fun p t ht hb hk => hg p t (by have := (List.getElem?_eq_some_iff.1 ht).1; unfold cnt at hlt; omega) ht hb hk)
  have hrs2 : rs = List.replicate c.length (qU none3) := by
   rw [hrs]
   congr 1
   unfold cnt at hc hn1
   omega
  have hnc : n = cnt c := by omega
  rw [← hrs2, ← hnc] at h1
  clear hg hcn hnx h2
  cbv
  (repeat ((first | refine ln fun _ _ _ => ?_ | refine tt ?_ | refine ff ?_ | refine wr fun _ _ => ?_ | refine rp fun _ _ _ => ?_ | with_reducible refine bq ?_ | refine cl ?_ | refine sd ?_ | intro _ _); cbv))
  exact h1
theorem made_in0 {C : Orc} {E E' : Ent} {r : Nat} (hE : EnV r C E E')
  (kN : Told C 20 needsR) (kG : Told C 27 goodR) {c : List Tm} {i : Int} {xs : List R3} (hq : ∀ t ∈ c, LB t.q) (hn : cnt c ≤ 1000000) (hx : ∀ a ∈ xs, LB a) (hxn : cnt xs ≤ 1000000) (hr : (cnt c).toNat + (cnt xs).toNat + 10 < r) {k : U → Heap → Prop}
  (h1 : madeB c i xs = true → k (.tup [.ptr 1 0, ub true]) [some (.row 3 ((List.replicate c.length none3).map qU)), some (.cells [cU c, .s 1 (uB (needs c i.toNat)), qsU xs, .sl 0 (cnt c) (cnt c) 3, ui 0])])
  (h2 : madeB c i xs = false → ∀ h, k (.tup [.v (.pointer none), ub false]) (h)) : E' 34 [cU c, ui i, qsU xs] [] k := by
 refine hE 34 Tryz.f34 (by simp) _ _ _ ?_
 have k1 := kN _ _ ⟨c, i, hq, hn, rfl, rfl⟩
 have kg : ∀ (j : Int) a, 0 ≤ j → xs[j.toNat]? = some a → C 27 [.agg (qU a)] (ub (goodB a)) := fun j a h0 ha => kG _ _ ⟨a, hx a (List.mem_of_getElem? ha), rfl, rfl⟩
 have hcn := fun i (h0 : 0 ≤ i) (h1 : i < cnt c) => nth_map (c := c) tU h0 h1
 have hxm := fun i (h0 : 0 ≤ i) (h1 : i < cnt xs) => nth_map (c := xs) qU h0 h1
 have hc := cnt_map c tU
 have hxc := cnt_map xs qU
 have hc0 := cnt0 c
 have hx0 := cnt0 xs
 have hnl := needs_len c i.toNat
 unfold madeB at h1 h2
 unfold needsU at k1
 rw [List.map_replicate] at h1
 clear kN kG hx hq
 unfold cU qsU at *
 generalize c.map tU = cs at *
 generalize xs.map qU = ys at *
 cases hmc : mayC c i
 ·rw [hmc, if_neg (by simp)] at k1
  rw [hmc, Bool.false_and, Bool.false_and] at h2
  have h2 := h2 rfl
  clear h1
  cbv
  (repeat ((first | refine ln fun _ _ _ => ?_ | refine tt ?_ | refine ff ?_ | refine wr fun _ _ => ?_ | refine rp fun _ _ _ => ?_ | with_reducible refine bq ?_ | refine cl ?_ | refine sd ?_ | intro _ _); cbv))
  exact h2 _
 rw [hmc, if_pos rfl] at k1
 rw [hmc, Bool.true_and] at h1 h2
 generalize needs c i.toNat = nd at *
 have hnx := fun j (h0 : 0 ≤ j) (h1 : j < cnt nd) => uB_nth (s := nd) h0 h1
 have hnn : uB nd ≠ [] := by
  unfold mayC at hmc
  simp only [Bool.and_eq_true, decide_eq_true_eq] at hmc
  unfold uB
  intro h
  rw [List.map_eq_nil_iff] at h
  rw [h] at hnl
  have : cnt ([] : List Bool) = 0 := rfl
  omega
 generalize uB nd = nds at *
 obtain ⟨y, nds', hns⟩ := List.exists_cons_of_ne_nil hnn
 clear hnn
 obtain ⟨nd2, hnd2⟩ : ∃ nd2, nd2 = nds := ⟨_, rfl⟩
 rw [← hnd2] at h1 hnx
 subst hns
 cbv
 (repeat ((first | refine ln fun _ _ _ => ?_ | refine tt ?_ | refine ff ?_ | refine wr fun _ _ => ?_ | refine rp fun _ _ _ => ?_ | with_reducible refine bq ?_ | refine cl ?_ | refine sd ?_ | intro _ _); cbv))
 rename_i n hn1 hn2 rs hrs hrc nx hx1 hx2
 refine lets [0, 2, 8, 28, 29, 30] ?_
 cbv
 refine loop_inv (fun j a h => ∃ q : Int, 0 ≤ q ∧ q ≤ cnt xs ∧ j = (cnt xs - q).toNat ∧ (∀ (p : Nat) z, (p : Int) < q → xs[p]? = some z → goodB z = true) ∧ a = [.s 7 cs, .lost, .s 3 ys, .lost, .lost, .lost, .lost, .lost, .ptr 1 0, .lost, .lost, .lost, .lost, .lost, .lost, .lost, .lost, .lost, .lost, .lost, .lost, .lost, .lost, .lost, .lost, .lost, .lost, .lost, .s 3 ys, ui nx, ui q, .lost, .lost, .lost, .lost, .lost, .lost, .lost, .lost, .lost, .lost, .lost, .lost, .lost, .lost, .lost, .lost, .lost, .lost, .lost, .lost, .lost, .lost, .lost, .lost, .lost, .lost, .lost, .lost, .lost, .lost, .lost, .lost, .lost, .lost, .lost] ∧ h = [some (.row 3 rs), some (.cells [.s 7 cs, .s 1 nd2, .s 3 ys, .sl 0 n n 3, ui 0])]) ?_ r (cnt xs).toNat _ _ (by omega) ⟨0, by omega, by omega, by omega, fun p z hp _ => absurd hp (by omega), rfl, by rw [hnd2]⟩
 rintro j a h K ⟨q, q0, q1, hj, hg, rfl, rfl⟩ hK
 rcases Decidable.em (q < cnt xs) with hlt | hlt
 ·obtain ⟨⟨s, l, d⟩, hz, hy⟩ := hxm q q0 hlt
  have k2 := kg q _ q0 hz
  have hg' : goodB (s, l, d) = true → ∀ (p : Nat) z, (p : Int) < q + 1 → xs[p]? = some z → goodB z = true := fun hb p z hp hz' => by
   by_cases e : (p : Int) = q
   ·have : p = q.toNat := by omega
    rw [this, hz] at hz'
    injection hz' with hz'
    rw [← hz']
    exact hb
   ·exact hg p z (by omega) hz'
  have hg2 : goodB (s, l, d) = false → xs.all goodB = false := fun hb => by
   rw [Bool.eq_false_iff, Ne, List.all_eq_true]
   intro hh
   rw [hh _ (List.mem_of_getElem? hz)] at hb
   cases hb
  generalize goodB (s, l, d) = g at k2 hg' hg2
  cases g
  ·rw [hg2 rfl, Bool.false_and] at h2
   have h2 := h2 rfl
   clear hg' hg2 hg h1
   cbv
   (repeat ((first | refine ln fun _ _ _ => ?_ | refine tt ?_ | refine ff ?_ | refine wr fun _ _ => ?_ | refine rp fun _ _ _ => ?_ | with_reducible refine bq ?_ | refine cl ?_ | refine sd ?_ | intro _ _); cbv))
   refine el ?_ (by omega) hy
   cbv
   (repeat ((first | refine ln fun _ _ _ => ?_ | refine tt ?_ | refine ff ?_ | refine wr fun _ _ => ?_ | refine rp fun _ _ _ => ?_ | with_reducible refine bq ?_ | refine cl ?_ | refine sd ?_ | intro _ _); cbv))
   exact h2 _
  ·clear hg2
   cbv
   (repeat ((first | refine ln fun _ _ _ => ?_ | refine tt ?_ | refine ff ?_ | refine wr fun _ _ => ?_ | refine rp fun _ _ _ => ?_ | with_reducible refine bq ?_ | refine cl ?_ | refine sd ?_ | intro _ _); cbv))
   refine el ?_ (by omega) hy
   cbv
   (repeat ((first | refine ln fun _ _ _ => ?_ | refine tt ?_ | refine ff ?_ | refine wr fun _ _ => ?_ | refine rp fun _ _ _ => ?_ | with_reducible refine bq ?_ | refine cl ?_ | refine sd ?_ | intro _ _); cbv))
   rename_i q' hq'
   refine lets [0, 2, 8, 28, 29, 30] ?_
   exact hK (cnt xs - (q + 1)).toNat _ _ (by omega) ⟨q + 1, by omega, by omega, rfl, hg' rfl, by rw [hq']; rfl, rfl⟩
 have hall : xs.all goodB = true := List.all_eq_true.2 fun z hz => by
  obtain ⟨p, hp, rfl⟩ := List.mem_iff_getElem.1 hz
  exact hg p _ (by unfold cnt at hlt; omega) (List.getElem?_eq_getElem hp)
 rw [hall, Bool.true_and] at h1 h2
 clear hg hall kg hxm
 cbv
 (repeat ((first | refine ln fun _ _ _ => ?_ | refine tt ?_ | refine ff ?_ | refine wr fun _ _ => ?_ | refine rp fun _ _ _ => ?_ | with_reducible refine bq ?_ | refine cl ?_ | refine sd ?_ | intro _ _); cbv))
 rename_i nc hnc1 hnc2
 refine lets [0, 2, 8, 38, 39, 40] ?_
 cbv
 refine loop_inv (fun j a h => ∃ q : Int, 0 ≤ q ∧ q ≤ cnt c ∧ j = (cnt c - q).toNat ∧ (∀ (p : Nat) t, (p : Int) < q → c[p]? = some t → nd[p]? = some true → t.k = 2 → t.n < cnt xs) ∧ a = [.s 7 cs, .lost, .s 3 ys, .lost, .lost, .lost, .lost, .lost, .ptr 1 0, .lost, .lost, .lost, .lost, .lost, .lost, .lost, .lost, .lost, .lost, .lost, .lost, .lost, .lost, .lost, .lost, .lost, .lost, .lost, .lost, .lost, .lost, .lost, .lost, .lost, .lost, .lost, .lost, .lost, .s 7 cs, ui nc, ui q, .lost, .lost, .lost, .lost, .lost, .lost, .lost, .lost, .lost, .lost, .lost, .lost, .lost, .lost, .lost, .lost, .lost, .lost, .lost, .lost, .lost, .lost, .lost, .lost, .lost] ∧ h = [some (.row 3 rs), some (.cells [.s 7 cs, .s 1 nd2, .s 3 ys, .sl 0 n n 3, ui 0])]) ?_ r (cnt c).toNat _ _ (by omega) ⟨0, by omega, by omega, by omega, fun p z hp _ => absurd hp (by omega), rfl, rfl⟩
 rintro j2 a h K2 ⟨q, q0, q1, hj2, hg, rfl, rfl⟩ hK2
 clear hK
 rcases Decidable.em (q < cnt c) with hlt | hlt
 ·obtain ⟨⟨kd, ta, tb, m, s, l, d⟩, ht, hy⟩ := hcn q q0 hlt
  obtain ⟨b, hb, hz⟩ := hnx q q0 (by omega)
  have hg' : (b = true → kd = 2 → m < cnt xs) → ∀ (p : Nat) t, (p : Int) < q + 1 → c[p]? = some t → nd[p]? = some true → t.k = 2 → t.n < cnt xs := fun hh p t hp ht' hb' hk => by
   by_cases e : (p : Int) = q
   ·have : p = q.toNat := by omega
    subst this
    rw [ht] at ht'
    injection ht' with ht'
    subst ht'
    rw [hb] at hb'
    injection hb' with hb'
    exact hh hb' hk
   ·exact hg p t (by omega) ht' hb' hk
  have hg2 : b = true → kd = 2 → ¬ m < cnt xs → refsB c nd (cnt xs) = false := fun e1 e2 e3 => by
   rw [Bool.eq_false_iff]
   intro hh
   exact e3 (refs_iff.1 hh q.toNat _ ht (by rw [hb, e1]) e2)
  clear hg hcn hnx ht hb
  cbv
  (repeat ((first | refine ln fun _ _ _ => ?_ | refine tt ?_ | refine ff ?_ | refine wr fun _ _ => ?_ | refine rp fun _ _ _ => ?_ | with_reducible refine bq ?_ | refine cl ?_ | refine sd ?_ | intro _ _); cbv))
  refine el ?_ (by omega) hy
  cbv
  (repeat ((first | refine ln fun _ _ _ => ?_ | refine tt ?_ | refine ff ?_ | refine wr fun _ _ => ?_ | refine rp fun _ _ _ => ?_ | with_reducible refine bq ?_ | refine cl ?_ | refine sd ?_ | intro _ _); cbv))
  refine el ?_ (by omega) hz
  clear hy hz
  cases b
  ·cbv
   (repeat ((first | refine ln fun _ _ _ => ?_ | refine tt ?_ | refine ff ?_ | refine wr fun _ _ => ?_ | refine rp fun _ _ _ => ?_ | with_reducible refine bq ?_ | refine cl ?_ | refine sd ?_ | intro _ _); cbv))
   rename_i q' hq'
   refine lets [0, 2, 8, 38, 39, 40] ?_
   exact hK2 (cnt c - (q + 1)).toNat _ _ (by omega) ⟨q + 1, by omega, by omega, rfl, hg' (fun e => by cases e), by rw [hq']; rfl, rfl⟩
  rcases Decidable.em (kd = 2) with h3 | h3
  ·rcases Decidable.em (m < cnt xs) with h4 | h4
   ·clear hg2
    cbv
    (repeat ((first | refine ln fun _ _ _ => ?_ | refine tt ?_ | refine ff ?_ | refine wr fun _ _ => ?_ | refine rp fun _ _ _ => ?_ | with_reducible refine bq ?_ | refine cl ?_ | refine sd ?_ | intro _ _); cbv))
    rename_i q' hq'
    refine lets [0, 2, 8, 38, 39, 40] ?_
    exact hK2 (cnt c - (q + 1)).toNat _ _ (by omega) ⟨q + 1, by omega, by omega, rfl, hg' (fun _ _ => h4), by rw [hq']; rfl, rfl⟩
   ·have h2 := h2 (hg2 rfl h3 h4)
    clear hg2 hg' h1 hK2
    cbv
    (repeat ((first | refine ln fun _ _ _ => ?_ | refine tt ?_ | refine ff ?_ | refine wr fun _ _ => ?_ | refine rp fun _ _ _ => ?_ | with_reducible refine bq ?_ | refine cl ?_ | refine sd ?_ | intro _ _); cbv))
    exact h2 _
  ·clear hg2
   cbv
   (repeat ((first | refine ln fun _ _ _ => ?_ | refine tt ?_ | refine ff ?_ | refine wr fun _ _ => ?_ | refine rp fun _ _ _ => ?_ | with_reducible refine bq ?_ | refine cl ?_ | refine sd ?_ | intro _ _); cbv))
   rename_i q' hq'
   refine lets [0, 2, 8, 38, 39, 40] ?_
   exact hK2 (cnt c - (q + 1)).toNat _ _ (by omega) ⟨q + 1, by omega, by omega, rfl, hg' (fun _ e => absurd e h3), by rw [hq']; rfl, rfl⟩
 ·have h1 := h1 (refs_iff.2 fun p t ht hb hk => hg p t (by have := (List.getElem?_eq_some_iff.1 ht).1; unfold cnt at hlt; omega) ht hb hk)
  have hrs2 : rs = List.replicate c.length (qU none3) := by
   rw [hrs]
   congr 1
   unfold cnt at hc hn1
   omega
  have hnc : n = cnt c := by omega
  rw [← hrs2, ← hnc] at h1
  clear hg hcn hnx h2
  cbv
  (repeat ((first | refine ln fun _ _ _ => ?_ | refine tt ?_ | refine ff ?_ | refine wr fun _ _ => ?_ | refine rp fun _ _ _ => ?_ | with_reducible refine bq ?_ | refine cl ?_ | refine sd ?_ | intro _ _); cbv))
  exact h1
theorem term_cases {t : Tm} {i : Int} (h : termOk t i = true) : t.k = 1 ∨ (t.k = 2 ∧ 0 ≤ t.n) ∨ ((t.k = 3 ∨ t.k = 4 ∨ t.k = 5 ∨ t.k = 6) ∧ (0 ≤ t.a ∧ t.a < i) ∧ 0 ≤ t.b ∧ t.b < i) ∨ (t.k = 7 ∧ 0 ≤ t.a ∧ t.a < i) ∨ (t.k = 8 ∧ (0 ≤ t.a ∧ t.a < i) ∧ -128 ≤ t.n ∧ t.n ≤ 128) := by
 unfold termOk noneB kid at h
 by_cases h1 : t.k = 1
 ·exact .inl h1
 rw [if_neg h1] at h
 by_cases h2 : t.k = 2
 ·rw [if_pos h2] at h
  simp at h
  exact .inr (.inl ⟨h2, by omega⟩)
 rw [if_neg h2] at h
 by_cases h7 : t.k = 7
 ·rw [if_pos h7] at h
  simp at h
  exact .inr (.inr (.inr (.inl ⟨h7, by omega, by omega⟩)))
 rw [if_neg h7] at h
 by_cases h8 : t.k = 8
 ·rw [if_pos h8] at h
  simp at h
  exact .inr (.inr (.inr (.inr ⟨h8, by omega, by omega⟩)))
 rw [if_neg h8] at h
 by_cases h9 : t.k = 3 ∨ t.k = 4 ∨ t.k = 5 ∨ t.k = 6
 ·rw [if_pos h9] at h
  simp at h
  exact .inr (.inr (.inl ⟨h9, by omega, by omega⟩))
 ·rw [if_neg h9] at h
  simp at h
theorem at3_of {l : List R3} {i : Int} {a : R3} (h : l[i.toNat]? = some a) : at3 l i = a := by unfold at3; rw [h]; rfl
structure TermTold (C : Orc) : Prop where
 o : Told C 58 ownR
 a : Told C 59 (twoR addS)
 s : Told C 60 (twoR subS)
 m : Told C 61 (twoR mulS)
 d : Told C 62 (twoR divS)
 n : Told C 63 rNegR
 p : Told C 64 powOfR
theorem term_in {C : Orc} {E0 E1 E2 : Ent} {r : Nat} (h0 : EnV r C E0 E1) (hE : EnV r C E1 E2) (kT : TermTold C) {t : Tm} {i : Int} {vs xs : List R3} {cs nds : Rows} {o : Ob} {n cn : Int} (ht : termOk t i = true) (hi : i ≤ cnt vs) (hr : t.k = 2 → t.n < cnt xs) (hn : n = cnt vs) (hq : LB t.q) (hv : ∀ a ∈ vs, LB a) (hx : ∀ a ∈ xs, LB a) (c0 : 0 ≤ cn) (c1 : cn ≤ 1000000) {k : U → Heap → Prop}
  (hk : ∀ z, z = cn + 1 → ∀ x1 x2, k (uR4 (evT vs xs t)) [some o, some (.row 3 (vs.map qU)), some (.cells [.s 7 cs, .s 1 nds, qsU xs, .sl 1 n n 3, ui z]), x1, x2]) : E2 35 [.ptr 2 0, .agg (tU t)] [some o, some (.row 3 (vs.map qU)), some (.cells [.s 7 cs, .s 1 nds, qsU xs, .sl 1 n n 3, ui cn])] k := by
 refine hE 35 Tryz.f35 (by simp) _ _ _ ?_
 have hvm := fun i (h0 : 0 ≤ i) (h1 : i < cnt vs) => nth_map (c := vs) qU h0 h1
 have hxm := fun i (h0 : 0 ≤ i) (h1 : i < cnt xs) => nth_map (c := xs) qU h0 h1
 have hc := term_cases ht
 have hvL := fun a (h : a ∈ vs) => hv a h
 obtain ⟨kd, ta, tb, m, s, l, d⟩ := t
 dsimp only at hc hr hq
 unfold qsU at *
 generalize hvr : vs.map qU = vr at *
 generalize hxr : xs.map qU = xr at *
 clear ht hvr hxr
 cbv
 (repeat ((first | refine ln fun _ _ _ => ?_ | refine tt ?_ | refine ff ?_ | refine wr fun _ _ => ?_ | refine rp fun _ _ _ => ?_ | with_reducible refine bq ?_ | refine cl ?_ | refine sd ?_ | intro _ _); cbv))
 refine h0 57 Tryz.f57 (by simp) _ _ _ ?_
 cbv
 rcases hc with h | ⟨h, h2⟩ | ⟨h, h2, h3⟩ | ⟨h, h2⟩ | ⟨h, h2, h3⟩
 ·subst h
  obtain ⟨s7, l7, d7, k1, ek⟩ := tR (kT.o _ _ ⟨(s, l, d), hq, rfl, rfl⟩)
  rw [show evT vs xs ⟨1, ta, tb, m, (s, l, d)⟩ = (s7, l7, d7, 0) by show to4 (ownS (s, l, d)) = _; rw [← ek]; rfl] at hk
  clear ek kT hv hx hvm hxm hvL hq
  (repeat ((first | refine ln fun _ _ _ => ?_ | refine tt ?_ | refine ff ?_ | refine wr fun _ _ => ?_ | refine rp fun _ _ _ => ?_ | with_reducible refine bq ?_ | refine cl ?_ | refine sd ?_ | intro _ _); cbv))
  exact hk _ (by assumption) _ _
 ·subst h
  obtain ⟨⟨s1, l1, d1⟩, v1, w1⟩ := hxm m h2 (hr rfl)
  obtain ⟨s7, l7, d7, k1, ek⟩ := tR (kT.o _ _ ⟨(s1, l1, d1), hx _ (List.mem_of_getElem? v1), rfl, rfl⟩)
  rw [show evT vs xs ⟨2, ta, tb, m, (s, l, d)⟩ = (s7, l7, d7, 0) by show to4 (ownS (at3 xs m)) = _; rw [at3_of v1, ← ek]; rfl] at hk
  clear ek kT hv hx hvm hxm hvL hq v1
  (repeat ((first | refine ln fun _ _ _ => ?_ | refine tt ?_ | refine ff ?_ | refine wr fun _ _ => ?_ | refine rp fun _ _ _ => ?_ | with_reducible refine bq ?_ | refine cl ?_ | refine sd ?_ | intro _ _); cbv))
  refine el ?_ (by omega) w1
  cbv
  (repeat ((first | refine ln fun _ _ _ => ?_ | refine tt ?_ | refine ff ?_ | refine wr fun _ _ => ?_ | refine rp fun _ _ _ => ?_ | with_reducible refine bq ?_ | refine cl ?_ | refine sd ?_ | intro _ _); cbv))
  exact hk _ (by assumption) _ _
 ·obtain ⟨⟨s1, l1, d1⟩, v1, w1⟩ := hvm ta h2.1 (by omega)
  obtain ⟨⟨s2, l2, d2⟩, v2, w2⟩ := hvm tb h3.1 (by omega)
  rcases h with h | h | h | h
  ·subst h
   obtain ⟨s7, l7, d7, e7, k1, ek⟩ := tR4 (kT.a _ _ ⟨(s1, l1, d1), (s2, l2, d2), hv _ (List.mem_of_getElem? v1), hv _ (List.mem_of_getElem? v2), rfl, rfl⟩)
   rw [show evT vs xs ⟨3, ta, tb, m, (s, l, d)⟩ = (s7, l7, d7, e7) by show addS (at3 vs ta) (at3 vs tb) = _; rw [at3_of v1, at3_of v2, ek]] at hk
   clear ek kT hv hx hvm hxm hvL hq v1 v2
   (repeat ((first | refine ln fun _ _ _ => ?_ | refine tt ?_ | refine ff ?_ | refine wr fun _ _ => ?_ | refine rp fun _ _ _ => ?_ | with_reducible refine bq ?_ | refine cl ?_ | refine sd ?_ | intro _ _); cbv))
   refine el ?_ (by omega) w1
   cbv
   (repeat ((first | refine ln fun _ _ _ => ?_ | refine tt ?_ | refine ff ?_ | refine wr fun _ _ => ?_ | refine rp fun _ _ _ => ?_ | with_reducible refine bq ?_ | refine cl ?_ | refine sd ?_ | intro _ _); cbv))
   refine el ?_ (by omega) w2
   cbv
   (repeat ((first | refine ln fun _ _ _ => ?_ | refine tt ?_ | refine ff ?_ | refine wr fun _ _ => ?_ | refine rp fun _ _ _ => ?_ | with_reducible refine bq ?_ | refine cl ?_ | refine sd ?_ | intro _ _); cbv))
   exact hk _ (by assumption) _ _
  ·subst h
   obtain ⟨s7, l7, d7, e7, k1, ek⟩ := tR4 (kT.s _ _ ⟨(s1, l1, d1), (s2, l2, d2), hv _ (List.mem_of_getElem? v1), hv _ (List.mem_of_getElem? v2), rfl, rfl⟩)
   rw [show evT vs xs ⟨4, ta, tb, m, (s, l, d)⟩ = (s7, l7, d7, e7) by show subS (at3 vs ta) (at3 vs tb) = _; rw [at3_of v1, at3_of v2, ek]] at hk
   clear ek kT hv hx hvm hxm hvL hq v1 v2
   (repeat ((first | refine ln fun _ _ _ => ?_ | refine tt ?_ | refine ff ?_ | refine wr fun _ _ => ?_ | refine rp fun _ _ _ => ?_ | with_reducible refine bq ?_ | refine cl ?_ | refine sd ?_ | intro _ _); cbv))
   refine el ?_ (by omega) w1
   cbv
   (repeat ((first | refine ln fun _ _ _ => ?_ | refine tt ?_ | refine ff ?_ | refine wr fun _ _ => ?_ | refine rp fun _ _ _ => ?_ | with_reducible refine bq ?_ | refine cl ?_ | refine sd ?_ | intro _ _); cbv))
   refine el ?_ (by omega) w2
   cbv
   (repeat ((first | refine ln fun _ _ _ => ?_ | refine tt ?_ | refine ff ?_ | refine wr fun _ _ => ?_ | refine rp fun _ _ _ => ?_ | with_reducible refine bq ?_ | refine cl ?_ | refine sd ?_ | intro _ _); cbv))
   exact hk _ (by assumption) _ _
  ·subst h
   obtain ⟨s7, l7, d7, e7, k1, ek⟩ := tR4 (kT.m _ _ ⟨(s1, l1, d1), (s2, l2, d2), hv _ (List.mem_of_getElem? v1), hv _ (List.mem_of_getElem? v2), rfl, rfl⟩)
   rw [show evT vs xs ⟨5, ta, tb, m, (s, l, d)⟩ = (s7, l7, d7, e7) by show mulS (at3 vs ta) (at3 vs tb) = _; rw [at3_of v1, at3_of v2, ek]] at hk
   clear ek kT hv hx hvm hxm hvL hq v1 v2
   (repeat ((first | refine ln fun _ _ _ => ?_ | refine tt ?_ | refine ff ?_ | refine wr fun _ _ => ?_ | refine rp fun _ _ _ => ?_ | with_reducible refine bq ?_ | refine cl ?_ | refine sd ?_ | intro _ _); cbv))
   refine el ?_ (by omega) w1
   cbv
   (repeat ((first | refine ln fun _ _ _ => ?_ | refine tt ?_ | refine ff ?_ | refine wr fun _ _ => ?_ | refine rp fun _ _ _ => ?_ | with_reducible refine bq ?_ | refine cl ?_ | refine sd ?_ | intro _ _); cbv))
   refine el ?_ (by omega) w2
   cbv
   (repeat ((first | refine ln fun _ _ _ => ?_ | refine tt ?_ | refine ff ?_ | refine wr fun _ _ => ?_ | refine rp fun _ _ _ => ?_ | with_reducible refine bq ?_ | refine cl ?_ | refine sd ?_ | intro _ _); cbv))
   exact hk _ (by assumption) _ _
  ·subst h
   obtain ⟨s7, l7, d7, e7, k1, ek⟩ := tR4 (kT.d _ _ ⟨(s1, l1, d1), (s2, l2, d2), hv _ (List.mem_of_getElem? v1), hv _ (List.mem_of_getElem? v2), rfl, rfl⟩)
   rw [show evT vs xs ⟨6, ta, tb, m, (s, l, d)⟩ = (s7, l7, d7, e7) by show divS (at3 vs ta) (at3 vs tb) = _; rw [at3_of v1, at3_of v2, ek]] at hk
   clear ek kT hv hx hvm hxm hvL hq v1 v2
   (repeat ((first | refine ln fun _ _ _ => ?_ | refine tt ?_ | refine ff ?_ | refine wr fun _ _ => ?_ | refine rp fun _ _ _ => ?_ | with_reducible refine bq ?_ | refine cl ?_ | refine sd ?_ | intro _ _); cbv))
   refine el ?_ (by omega) w1
   cbv
   (repeat ((first | refine ln fun _ _ _ => ?_ | refine tt ?_ | refine ff ?_ | refine wr fun _ _ => ?_ | refine rp fun _ _ _ => ?_ | with_reducible refine bq ?_ | refine cl ?_ | refine sd ?_ | intro _ _); cbv))
   refine el ?_ (by omega) w2
   cbv
   (repeat ((first | refine ln fun _ _ _ => ?_ | refine tt ?_ | refine ff ?_ | refine wr fun _ _ => ?_ | refine rp fun _ _ _ => ?_ | with_reducible refine bq ?_ | refine cl ?_ | refine sd ?_ | intro _ _); cbv))
   exact hk _ (by assumption) _ _
 ·subst h
  obtain ⟨⟨s1, l1, d1⟩, v1, w1⟩ := hvm ta h2.1 (by omega)
  obtain ⟨s7, l7, d7, k1, ek⟩ := tR (kT.n _ _ ⟨(s1, l1, d1), hv _ (List.mem_of_getElem? v1), rfl, rfl⟩)
  rw [show evT vs xs ⟨7, ta, tb, m, (s, l, d)⟩ = (s7, l7, d7, 0) by show to4 (negS (at3 vs ta)) = _; rw [at3_of v1, ← ek]; rfl] at hk
  clear ek kT hv hx hvm hxm hvL hq v1
  (repeat ((first | refine ln fun _ _ _ => ?_ | refine tt ?_ | refine ff ?_ | refine wr fun _ _ => ?_ | refine rp fun _ _ _ => ?_ | with_reducible refine bq ?_ | refine cl ?_ | refine sd ?_ | intro _ _); cbv))
  refine el ?_ (by omega) w1
  cbv
  (repeat ((first | refine ln fun _ _ _ => ?_ | refine tt ?_ | refine ff ?_ | refine wr fun _ _ => ?_ | refine rp fun _ _ _ => ?_ | with_reducible refine bq ?_ | refine cl ?_ | refine sd ?_ | intro _ _); cbv))
  exact hk _ (by assumption) _ _
 ·subst h
  obtain ⟨⟨s1, l1, d1⟩, v1, w1⟩ := hvm ta h2.1 (by omega)
  obtain ⟨s7, l7, d7, e7, k1, ek⟩ := tR4 (kT.p _ _ ⟨(s1, l1, d1), m, hv _ (List.mem_of_getElem? v1), by omega, by omega, rfl, rfl⟩)
  rw [show evT vs xs ⟨8, ta, tb, m, (s, l, d)⟩ = (s7, l7, d7, e7) by show powS (at3 vs ta) m = _; rw [at3_of v1, ek]] at hk
  clear ek kT hv hx hvm hxm hvL hq v1
  (repeat ((first | refine ln fun _ _ _ => ?_ | refine tt ?_ | refine ff ?_ | refine wr fun _ _ => ?_ | refine rp fun _ _ _ => ?_ | with_reducible refine bq ?_ | refine cl ?_ | refine sd ?_ | intro _ _); cbv))
  refine el ?_ (by omega) w1
  cbv
  (repeat ((first | refine ln fun _ _ _ => ?_ | refine tt ?_ | refine ff ?_ | refine wr fun _ _ => ?_ | refine rp fun _ _ _ => ?_ | with_reducible refine bq ?_ | refine cl ?_ | refine sd ?_ | intro _ _); cbv))
  exact hk _ (by assumption) _ _
theorem mark_keep {j : Nat} : ∀ {ks : List Int} {s : List Bool}, s[j]? = some true → (mark s ks)[j]? = some true
 | [], s, h => h
 | k :: ks, s, h => by
  show (mark (s.set k.toNat true) ks)[j]? = some true
  refine mark_keep ?_
  rw [List.getElem?_set]
  split
  ·rename_i e
   have : j < s.length := (List.getElem?_eq_some_iff.1 h).1
   rw [if_pos (by omega)]
  ·exact h
theorem down_keep {c : List Tm} {j : Nat} : ∀ {i : Nat} {s : List Bool}, s[j]? = some true → (down c i s)[j]? = some true
 | 0, s, h => h
 | i + 1, s, h => by
  unfold down
  refine down_keep ?_
  split
  ·exact mark_keep h
  ·exact h
theorem needs_root {c : List Tm} {i : Int} (h0 : 0 ≤ i) (h1 : i < cnt c) : (needs c i.toNat)[i.toNat]? = some true := by
 unfold needs
 refine down_keep ?_
 unfold cnt at h1
 rw [List.getElem?_set, if_pos rfl, if_pos (by rw [List.length_replicate]; omega)]
theorem ev_no {c : List Tm} {xs vs : List R3} {nd : List Bool} {q : Int} (h0 : 0 ≤ q) (h : evN c xs nd q.toNat = (vs, 0)) (hb : nd[q.toNat]? = some false) : evN c xs nd (q + 1).toNat = (vs, 0) := by
 rw [show (q + 1).toNat = q.toNat + 1 by omega, evN, h, if_pos rfl, evStep, hb, if_neg (by simp)]
theorem ev_yes {c : List Tm} {xs vs : List R3} {nd : List Bool} {q e : Int} {s : Bool} {l d : List Int} {t : Tm} (h0 : 0 ≤ q) (h : evN c xs nd q.toNat = (vs, 0)) (hb : nd[q.toNat]? = some true) (ht : c[q.toNat]? = some t) (he : (s, l, d, e) = evT vs xs t) : evN c xs nd (q + 1).toNat = if e = 0 then (vs.set q.toNat (s, l, d), 0) else (vs, e) := by
 rw [show (q + 1).toNat = q.toNat + 1 by omega, evN, h, if_pos rfl, evStep, if_pos hb, ht]
 simp only [← he]
 rfl
theorem ev_err {c : List Tm} {xs vs : List R3} {nd : List Bool} {q i e : Int} (h0 : 0 ≤ q) (h1 : q ≤ i) (he : e ≠ 0) (h : evN c xs nd (q + 1).toNat = (vs, e)) : evN c xs nd (i.toNat + 1) = (vs, e) := by
 have := evN_stop (c := c) (xs := xs) (nd := nd) (i := (q + 1).toNat) (by rw [h]; exact he) (i - q).toNat
 rw [show (q + 1).toNat + (i - q).toNat = i.toNat + 1 by omega] at this
 rw [this, h]
def ofR (us : List U) (u : U) : Prop := ∃ c i xs, (∀ t ∈ c, LB t.q) ∧ cnt c ≤ 1000000 ∧ (∀ a ∈ xs, LB a) ∧ cnt xs ≤ 1000000 ∧ us = [cU c, ui i, qsU xs] ∧ u = uR4 (ofS c i xs)
theorem of_ok : SoundF Tryz.prog 13 ofR := sound3 [(20, needsR), (27, goodR), (58, ownR), (59, twoR addS), (60, twoR subS), (61, twoR mulS), (62, twoR divS), (63, rNegR), (64, powOfR)] [(34, Tryz.f34), (35, Tryz.f35), (57, Tryz.f57), (36, Tryz.f36)] (orc_cons needs_ok (orc_cons good_ok (orc_cons own_ok (orc_cons rAdd_ok (orc_cons rSub_ok (orc_cons rMul_ok (orc_cons rDiv_ok (orc_cons rNeg_ok (orc_cons power_ok orc_nil))))))))) (ents_cons Tryz.func34 (by kernel_rfl) (by kernel_rfl) (ents_cons Tryz.func35 (by kernel_rfl) (by kernel_rfl) (ents_cons Tryz.func57 (by kernel_rfl) (by kernel_rfl) (ents_cons Tryz.func36 (by kernel_rfl) (by kernel_rfl) ents_nil)))) (nd_of (by simp)) Tryz.func13 (by kernel_rfl) (by kernel_rfl) fun us u hR => by
 obtain ⟨c, i, xs, hq, hn, hx, hxn, rfl, hu⟩ := hR
 obtain ⟨r, hr⟩ : ∃ r, (cnt c).toNat + (cnt xs).toNat + 10 < r := ⟨_, Nat.lt_succ_self _⟩
 refine ⟨r, fun C E0 E1 E2 E hC hE0 hE1 hE2 => ?_⟩
 have hE1 : EnV r C E1 E2 := hE1
 have hE2 : EnV r C E2 E := hE2
 have kT : TermTold C := ⟨hC 58 ownR (by simp), hC 59 (twoR addS) (by simp), hC 60 (twoR subS) (by simp), hC 61 (twoR mulS) (by simp), hC 62 (twoR divS) (by simp), hC 63 rNegR (by simp), hC 64 powOfR (by simp)⟩
 have hmade := fun k => made_in (k := k) hE2 (hC 20 needsR (by simp)) (hC 27 goodR (by simp)) (i := i) hq hn hx hxn hr
 have hterm := fun (q : Int) t vs (o : Ob) nds n cn (ht : c[q.toNat]? = some t) => term_in (cs := c.map tU) (o := o) (nds := nds) (n := n) (cn := cn) hE1 hE2 kT (t := t) (i := q) (vs := vs) (xs := xs)
 have hload := hE2 36 Tryz.f36 (by simp)
 have hcn := fun i (h0 : 0 ≤ i) (h1 : i < cnt c) => nth_map (c := c) tU h0 h1
 have hc := cnt_map c tU
 have hc0 := cnt0 c
 have hx0 := cnt0 xs
 have hLv := LB_evN c xs (needs c i.toNat)
 have hlen := evN_len c xs (needs c i.toNat)
 have hnl := needs_len c i.toNat
 have hroot := fun (h0 : 0 ≤ i) (h1 : i < cnt c) => needs_root h0 h1
 have hok : goodC c = true → ∀ (q : Int) t, 0 ≤ q → c[q.toNat]? = some t → termOk t q = true := fun h q t h0 ht => by
  have := goodC_iff.1 h q.toNat t ht
  rwa [show (q.toNat : Int) = q by omega] at this
 have hrefs : refsB c (needs c i.toNat) (cnt xs) = true → ∀ (q : Int) t, 0 ≤ q → c[q.toNat]? = some t → (needs c i.toNat)[q.toNat]? = some true → t.k = 2 → t.n < cnt xs := fun h q t h0 ht hb => refs_iff.1 h q.toNat t ht hb
 have hno := fun q vs => ev_no (c := c) (xs := xs) (nd := needs c i.toNat) (q := q) (vs := vs)
 unfold ofS at hu
 clear kT hC hE1 hE2 hE0
 unfold cU qsU at *
 generalize c.map tU = cs at *
 generalize xs.map qU = xr at *
 have hmb : madeB c i xs = true → mayC c i = true ∧ refsB c (needs c i.toNat) (cnt xs) = true := fun h => by
  unfold madeB at h
  simp only [Bool.and_eq_true] at h
  exact ⟨h.1.1, h.2⟩
 have hmay : mayC c i = true → 0 ≤ i ∧ i < cnt c ∧ goodC c = true := fun h => by
  unfold mayC at h
  simp only [Bool.and_eq_true, decide_eq_true_eq] at h
  exact ⟨h.1.1, h.1.2, h.2⟩
 generalize needs c i.toNat = nd at *
 have hnx := fun j (h0 : 0 ≤ j) (h1 : j < cnt nd) => uB_nth (s := nd) h0 h1
 generalize uB nd = nds at *
 generalize madeB c i xs = mb at *
 obtain ⟨v0, hv0⟩ : ∃ v0, v0 = (List.replicate c.length none3).map qU := ⟨_, rfl⟩
 obtain ⟨n, hnn⟩ : ∃ n, n = cnt c := ⟨_, rfl⟩
 rw [← hv0, ← hnn] at hmade
 cbv
 (repeat ((first | refine ln fun _ _ _ => ?_ | refine tt ?_ | refine ff ?_ | refine wr fun _ _ => ?_ | refine rp fun _ _ _ => ?_ | with_reducible refine bq ?_ | refine cl ?_ | refine sd ?_ | intro _ _); cbv))
 cases mb
 ·rw [if_neg (by simp)] at hu
  refine hmade _ (fun h => by cases h) (fun _ h => ?_)
  clear hmade hterm hload hcn hno hLv hlen hnx hrefs hok hroot
  cbv
  (repeat ((first | refine ln fun _ _ _ => ?_ | refine tt ?_ | refine ff ?_ | refine wr fun _ _ => ?_ | refine rp fun _ _ _ => ?_ | with_reducible refine bq ?_ | refine cl ?_ | refine sd ?_ | intro _ _); cbv))
  exact hu.symm
 rw [if_pos rfl] at hu
 obtain ⟨hmay2, hrf⟩ := hmb rfl
 obtain ⟨hi0, hi1, hgc⟩ := hmay hmay2
 have hroot := hroot hi0 hi1
 have hok := hok hgc
 have hrefs := hrefs hrf
 refine hmade _ (fun _ => ?_) (fun h => by cases h)
 clear hmade hmay hmb hmay2 hrf hgc
 cbv
 (repeat ((first | refine ln fun _ _ _ => ?_ | refine tt ?_ | refine ff ?_ | refine wr fun _ _ => ?_ | refine rp fun _ _ _ => ?_ | with_reducible refine bq ?_ | refine cl ?_ | refine sd ?_ | intro _ _); cbv))
 rename_i e he
 refine lets [0, 1, 6, 8, 24, 25] ?_
 cbv
 refine loop_inv (fun j a h => ∃ (q : Int) (vs : List R3) (vr : Rows) (cn : Int), 0 ≤ q ∧ q ≤ i + 1 ∧ j = (i + 1 - q).toNat ∧ evN c xs nd q.toNat = (vs, 0) ∧ vr = vs.map qU ∧ 0 ≤ cn ∧ cn ≤ q ∧ (q = i + 1 → 1 ≤ cn) ∧ a = [.s 7 cs, ui i, .lost, .lost, .lost, .lost, .ptr 0 0, .lost, .ptr 2 0, .lost, .lost, .lost, .lost, .lost, .lost, .lost, .lost, .lost, .lost, .lost, .lost, .lost, .lost, .lost, ui e, ui q, .lost, .lost, .lost, .lost, .lost, .lost, .lost, .lost, .lost, .lost, .lost, .lost, .lost, .lost, .lost, .lost, .lost, .lost, .lost, .lost, .lost, .lost, .lost, .lost, .lost, .lost, .lost, .lost, .lost, .lost, .lost, .lost, .lost, .lost, .lost, .lost, .lost, .lost, .lost, .lost, .lost, .lost, .lost, .lost] ∧ h = [some (.cells [ub false, .l [], .l []]), some (.row 3 vr), some (.cells [.s 7 cs, .s 1 nds, .s 3 xr, .sl 1 n n 3, ui cn])]) ?_ r (i + 1).toNat _ _ (by omega) ⟨0, List.replicate c.length none3, v0, 0, by omega, by omega, by omega, rfl, hv0, by omega, by omega, fun h => absurd h (by omega), rfl, rfl⟩
 rintro j a h K ⟨q, vs, vr, cn, q0, q1, hj, hev, hvr, c0, c1, c2, rfl, rfl⟩ hK
 have hvl : cnt vs = cnt c := by
  have := hlen q.toNat
  rw [hev] at this
  unfold cnt
  rw [this]
 rcases Decidable.em (q < i + 1) with hlt | hlt
 ·obtain ⟨b, hb, hz⟩ := hnx q q0 (by omega)
  obtain ⟨t, ht, hy⟩ := hcn q q0 (by omega)
  cases b
  ·have hnext := hno q vs q0 hev hb
   have hqi : q ≠ i := fun h => by
    rw [h, hroot] at hb
    injection hb with hb
    cases hb
   cbv
   (repeat ((first | refine ln fun _ _ _ => ?_ | refine tt ?_ | refine ff ?_ | refine wr fun _ _ => ?_ | refine rp fun _ _ _ => ?_ | with_reducible refine bq ?_ | refine cl ?_ | refine sd ?_ | intro _ _); cbv))
   refine el ?_ (by omega) hz
   cbv
   (repeat ((first | refine ln fun _ _ _ => ?_ | refine tt ?_ | refine ff ?_ | refine wr fun _ _ => ?_ | refine rp fun _ _ _ => ?_ | with_reducible refine bq ?_ | refine cl ?_ | refine sd ?_ | intro _ _); cbv))
   rename_i q' hq'
   refine lets [0, 1, 6, 8, 24, 25] ?_
   exact hK (i + 1 - (q + 1)).toNat _ _ (by omega) ⟨q + 1, vs, vr, cn, by omega, by omega, rfl, hnext, hvr, c0, by omega, fun h => absurd h (by omega), by rw [hq']; rfl, rfl⟩
  ·have hvL : ∀ a ∈ vs, LB a := by
    have := hLv q.toNat
    rw [hev] at this
    exact this
   have h3 := fun k => hterm q t vs (.cells [ub false, .l [], .l []]) nds n cn ht (hok q t q0 ht) (by omega) (fun h => hrefs q t q0 ht hb h) (by omega) (hq t (List.mem_of_getElem? ht)) hvL hx c0 (by omega) (k := k)
   obtain ⟨s7, l7, d7, e7, ek⟩ : ∃ s l d e, (s, l, d, e) = evT vs xs t := ⟨_, _, _, _, rfl⟩
   rw [← ek, ← hvr] at h3
   have hnext := ev_yes q0 hev hb ht ek
   have hvx := nth_map (c := vs) qU q0 (by omega)
   obtain ⟨⟨s1, l1, d1⟩, w1, w2⟩ := hvx
   rw [← hvr] at w2
   obtain ⟨kd, ta, tb, m, s, l, d⟩ := t
   clear hterm hno hlen hLv hrefs hok hroot hload hcn hnx hvL
   cbv
   (repeat ((first | refine ln fun _ _ _ => ?_ | refine tt ?_ | refine ff ?_ | refine wr fun _ _ => ?_ | refine rp fun _ _ _ => ?_ | with_reducible refine bq ?_ | refine cl ?_ | refine sd ?_ | intro _ _); cbv))
   refine el ?_ (by omega) hz
   cbv
   (repeat ((first | refine ln fun _ _ _ => ?_ | refine tt ?_ | refine ff ?_ | refine wr fun _ _ => ?_ | refine rp fun _ _ _ => ?_ | with_reducible refine bq ?_ | refine cl ?_ | refine sd ?_ | intro _ _); cbv))
   refine el ?_ (by omega) hy
   cbv
   (repeat ((first | refine ln fun _ _ _ => ?_ | refine tt ?_ | refine ff ?_ | refine wr fun _ _ => ?_ | refine rp fun _ _ _ => ?_ | with_reducible refine bq ?_ | refine cl ?_ | refine sd ?_ | intro _ _); cbv))
   refine h3 _ fun z hz' x1 x2 => ?_
   clear h3
   cbv
   rcases Decidable.em (e7 = 0) with h0 | h0
   ·subst h0
    rw [if_pos rfl] at hnext
    (repeat ((first | refine ln fun _ _ _ => ?_ | refine tt ?_ | refine ff ?_ | refine wr fun _ _ => ?_ | refine rp fun _ _ _ => ?_ | with_reducible refine bq ?_ | refine cl ?_ | refine sd ?_ | intro _ _); cbv))
    refine el ?_ (by omega) w2
    cbv
    refine se fun ys he' hyc => ?_
    have e2 : ys = (vs.set q.toNat (s7, l7, d7)).map qU := by rw [he', List.map_set, ← hvr]; rfl
    clear he' hyc
    cbv
    (repeat ((first | refine ln fun _ _ _ => ?_ | refine tt ?_ | refine ff ?_ | refine wr fun _ _ => ?_ | refine rp fun _ _ _ => ?_ | with_reducible refine bq ?_ | refine cl ?_ | refine sd ?_ | intro _ _); cbv))
    rename_i q' hq'
    refine lets [0, 1, 6, 8, 24, 25] ?_
    exact hK (i + 1 - (q + 1)).toNat _ _ (by omega) ⟨q + 1, _, ys, z, by omega, by omega, rfl, hnext, e2, by omega, by omega, fun h => by omega, by rw [hq']; rfl, rfl⟩
   ·rw [if_neg h0] at hnext
    rw [ev_err q0 (by omega) h0 hnext, if_neg h0] at hu
    clear hnext hK
    (repeat ((first | refine ln fun _ _ _ => ?_ | refine tt ?_ | refine ff ?_ | refine wr fun _ _ => ?_ | refine rp fun _ _ _ => ?_ | with_reducible refine bq ?_ | refine cl ?_ | refine sd ?_ | intro _ _); cbv))
    exact hu.symm
 ·rw [show q.toNat = i.toNat + 1 by omega] at hev
  obtain ⟨⟨s1, l1, d1⟩, w1, w2⟩ := nth_map (c := vs) qU hi0 (by omega)
  rw [← hvr] at w2
  rw [hev, if_pos rfl, at3_of w1] at hu
  have c2 := c2 (by omega)
  clear hterm hno hlen hLv hrefs hok hroot hcn hnx hK
  cbv
  (repeat ((first | refine ln fun _ _ _ => ?_ | refine tt ?_ | refine ff ?_ | refine wr fun _ _ => ?_ | refine rp fun _ _ _ => ?_ | with_reducible refine bq ?_ | refine cl ?_ | refine sd ?_ | intro _ _); cbv))
  refine hload _ _ _ ?_
  cbv
  (repeat ((first | refine ln fun _ _ _ => ?_ | refine tt ?_ | refine ff ?_ | refine wr fun _ _ => ?_ | refine rp fun _ _ _ => ?_ | with_reducible refine bq ?_ | refine cl ?_ | refine sd ?_ | intro _ _); cbv))
  refine el ?_ (by omega) w2
  cbv
  (repeat ((first | refine ln fun _ _ _ => ?_ | refine tt ?_ | refine ff ?_ | refine wr fun _ _ => ?_ | refine rp fun _ _ _ => ?_ | with_reducible refine bq ?_ | refine cl ?_ | refine sd ?_ | intro _ _); cbv))
  exact hu.symm
theorem wkA_set {n : Nat} {js : List Nat} {u w : U} (hw : wkU n js u w) : ∀ {a b : List U} {T : Nat}, wkA n js a b → a[T]? = some u → wkA n js a (b.set T w)
 | [], [], _, _, h => by cases h
 | x :: a, y :: b, 0, h, e => by
  injection e with e
  subst e
  exact ⟨hw, h.2⟩
 | x :: a, y :: b, T + 1, h, e => ⟨h.1, wkA_set hw h.2 (by simpa using e)⟩
 | [], _ :: _, _, h, _ => h.elim
 | _ :: _, [], _, h, _ => h.elim
theorem wkH_more {n : Nat} {h : Heap} {j : Nat} {o : Option Ob} (ho : wkO n h j o) : ∀ {js : List Nat} {os : Heap}, wkH n h js os → wkH n h (js ++ [j]) (os ++ [o])
 | [], [], _ => ⟨ho, trivial⟩
 | _ :: js, _ :: os, hh => ⟨hh.1, wkH_more ho hh.2⟩
 | [], _ :: _, hh => hh.elim
 | _ :: _, [], hh => hh.elim
theorem letsA {n : Nat} {a : List U} {h : Heap} {k : List U → Heap → Prop} (L : List Nat) (T j : Nat) {l c : Int} {e : Nat} {xs : Rows} (hk : k ((keepT L a).set T (.sl n l c e)) (h.take n ++ [some (.row e xs)])) (ha : a[T]? = some (.sl j l c e) := by rfl) (ho : heapAt h j = some (.row e xs) := by rfl) (hj : n ≤ j ∧ j < h.length := by first | exact ⟨Nat.le_refl _, Nat.le_refl _⟩ | exact ⟨Nat.le_succ _, Nat.le_refl _⟩) (hc : okK n L a h = true := by rfl) : weak n a h k := by
 unfold okK at hc
 simp only [Bool.and_eq_true, decide_eq_true_eq] at hc
 obtain ⟨⟨h1, h2⟩, h3⟩ := hc
 have hjs : ∀ i, i < n → (List.range n ++ [j])[i]? = some i := fun i hi => by
  rw [List.getElem?_append_left (by simpa using hi)]
  simp [hi]
 refine ⟨⟨[j], _, _, ⟨?_, ?_, ?_⟩, hk⟩⟩
 ·unfold keeps
  simp [h1, hj.1, hj.2]
  refine List.nodup_append.2 ⟨List.nodup_range, by simp, ?_⟩
  intro x hx y hy
  rw [List.mem_singleton] at hy
  rw [List.mem_range] at hx
  omega
 ·refine wkA_set ?_ (wkA_keep hjs L a 0 h2) ha
  exact ⟨j, by simp, rfl⟩
 ·refine wkH_more (o := some (.row e xs)) (show _ ∧ _ from ⟨rfl, ho⟩) ?_
  rw [List.range_eq_range']
  exact wkH_take n [] h rfl (by simp) h1 h3
def markD (s : List Bool) (t : Tm) : List Bool := if t.k = 6 then s.set t.b.toNat true else if t.k = 8 ∧ t.n < 0 then s.set t.a.toNat true else s
def divM (c : List Tm) (nd : List Bool) : Nat → List Bool
 | 0 => List.replicate c.length false
 | q + 1 => if nd[q]? = some true then (match c[q]? with
  | some t => markD (divM c nd q) t
  | none => divM c nd q) else divM c nd q
def picks (s : List Bool) : Nat → List Int
 | 0 => []
 | q + 1 => if s[q]? = some true then picks s q ++ [(q : Int)] else picks s q
def divS' (c : List Tm) (i : Int) (xs : List R3) : List Int × Int := if madeB c i xs = true then (picks (divM c (needs c i.toNat) c.length) c.length, 0) else ([], 1)
theorem markD_len (s : List Bool) (t : Tm) : cnt (markD s t) = cnt s := by
 unfold markD cnt
 split
 ·rw [List.length_set]
 ·split
  ·rw [List.length_set]
  ·rfl
theorem divM_len (c : List Tm) (nd : List Bool) : ∀ q, cnt (divM c nd q) = cnt c
 | 0 => by unfold divM cnt; rw [List.length_replicate]
 | q + 1 => by
  unfold divM
  split
  ·split
   ·rw [markD_len, divM_len]
   ·exact divM_len c nd q
  ·exact divM_len c nd q
theorem divM_no {c : List Tm} {nd : List Bool} {q : Int} (h0 : 0 ≤ q) (hb : nd[q.toNat]? = some false) : divM c nd (q + 1).toNat = divM c nd q.toNat := by
 rw [show (q + 1).toNat = q.toNat + 1 by omega, divM, hb, if_neg (by simp)]
theorem divM_yes {c : List Tm} {nd : List Bool} {q : Int} {t : Tm} (h0 : 0 ≤ q) (hb : nd[q.toNat]? = some true) (ht : c[q.toNat]? = some t) : divM c nd (q + 1).toNat = markD (divM c nd q.toNat) t := by
 rw [show (q + 1).toNat = q.toNat + 1 by omega, divM, if_pos hb, ht]
theorem picks_no {s : List Bool} {q : Int} (h0 : 0 ≤ q) (hb : s[q.toNat]? = some false) : picks s (q + 1).toNat = picks s q.toNat := by
 rw [show (q + 1).toNat = q.toNat + 1 by omega, picks, hb, if_neg (by simp)]
theorem picks_yes {s : List Bool} {q : Int} (h0 : 0 ≤ q) (hb : s[q.toNat]? = some true) : picks s (q + 1).toNat = picks s q.toNat ++ [q] := by
 rw [show (q + 1).toNat = q.toNat + 1 by omega, picks, if_pos hb, show ((q.toNat : Nat) : Int) = q by omega]
theorem picks_cnt (s : List Bool) : ∀ q, cnt (picks s q) ≤ (q : Int)
 | 0 => Int.le_refl _
 | q + 1 => by
  have := picks_cnt s q
  unfold cnt at *
  rw [picks]
  split
  ·rw [List.length_append, List.length_singleton]
   omega
  ·omega
def uis (l : List Int) : Rows := l.map fun x => [ui x]
def divR (us : List U) (u : U) : Prop := ∃ c i xs, (∀ t ∈ c, LB t.q) ∧ cnt c ≤ 1000000 ∧ (∀ a ∈ xs, LB a) ∧ cnt xs ≤ 1000000 ∧ us = [cU c, ui i, qsU xs] ∧ u = .tup [if (divS' c i xs).1 = [] then nilU else .s 1 (uis (divS' c i xs).1), ui (divS' c i xs).2]
theorem uis_app (l : List Int) (q : Int) : uis (l ++ [q]) = uis l ++ [[ui q]] := by unfold uis; rw [List.map_append]; rfl
theorem uis_len (l : List Int) : (uis l).length = l.length := by unfold uis; rw [List.length_map]
theorem take_in {row zs : Rows} {ps : List Int} {q l : Int} {rest : Rows} (hl : l = cnt ps) (hr : row.take l.toNat = uis ps) (hz : zs = row.take l.toNat ++ [[ui q]] ++ rest) : zs.take (l + 1).toNat = uis (ps ++ [q]) := by
 rw [hz, hr, uis_app]
 have : (l + 1).toNat = (uis ps ++ [[ui q]]).length := by
  rw [List.length_append, uis_len, hl]
  unfold cnt
  simp
 rw [this, List.take_left]
theorem cnt_in {row zs : Rows} {z : List U} {l d : Int} (h0 : 0 ≤ l) (hd : d = cnt row) (h : l + 1 ≤ d) (hz : zs = row.take l.toNat ++ [z] ++ row.drop (l.toNat + 1)) : d = cnt zs := by
 rw [hd, hz]
 unfold cnt at *
 simp
 omega
theorem cnt_new {row zs : Rows} {z e : List U} {l c d : Int} (h0 : 0 ≤ l) (hd : d = cnt row) (hl : l ≤ d) (h : l + 1 ≤ c) (hz : zs = row.take l.toNat ++ [z] ++ List.replicate (c.toNat - (l.toNat + 1)) e) : c = cnt zs := by
 rw [hz]
 unfold cnt at *
 simp
 omega
theorem div_ok : SoundF Tryz.prog 15 divR := sound3 [(20, needsR), (27, goodR)] [(34, Tryz.f34), (35, Tryz.f35), (57, Tryz.f57), (36, Tryz.f36)] (orc_cons needs_ok (orc_cons good_ok orc_nil)) (ents_cons Tryz.func34 (by kernel_rfl) (by kernel_rfl) (ents_cons Tryz.func35 (by kernel_rfl) (by kernel_rfl) (ents_cons Tryz.func57 (by kernel_rfl) (by kernel_rfl) (ents_cons Tryz.func36 (by kernel_rfl) (by kernel_rfl) ents_nil)))) (nd_of (by simp)) Tryz.func15 (by kernel_rfl) (by kernel_rfl) fun us u hR => by
 obtain ⟨c, i, xs, hq, hn, hx, hxn, rfl, hu⟩ := hR
 obtain ⟨r, hr⟩ : ∃ r, (cnt c).toNat + (cnt xs).toNat + 10 < r := ⟨_, Nat.lt_succ_self _⟩
 refine ⟨r, fun C E0 E1 E2 E hC hE0 hE1 hE2 => ?_⟩
 have hE2 : EnV r C E2 E := hE2
 have hmade := fun k => made_in0 (k := k) hE2 (hC 20 needsR (by simp)) (hC 27 goodR (by simp)) (i := i) hq hn hx hxn hr
 have hcn := fun i (h0 : 0 ≤ i) (h1 : i < cnt c) => nth_map (c := c) tU h0 h1
 have hc := cnt_map c tU
 have hc0 := cnt0 c
 have hnl := needs_len c i.toNat
 have hok : goodC c = true → ∀ (q : Int) t, 0 ≤ q → c[q.toNat]? = some t → termOk t q = true := fun h q t h0 ht => by
  have := goodC_iff.1 h q.toNat t ht
  rwa [show (q.toNat : Int) = q by omega] at this
 unfold divS' at hu
 clear hC hE1 hE2 hE0
 unfold cU qsU at *
 generalize c.map tU = cs at *
 generalize xs.map qU = xr at *
 have hmb : madeB c i xs = true → 0 ≤ i ∧ i < cnt c ∧ goodC c = true := fun h => by
  unfold madeB mayC at h
  simp only [Bool.and_eq_true, decide_eq_true_eq] at h
  exact ⟨h.1.1.1.1, h.1.1.1.2, h.1.1.2⟩
 generalize needs c i.toNat = nd at *
 have hnx := fun j (h0 : 0 ≤ j) (h1 : j < cnt nd) => uB_nth (s := nd) h0 h1
 generalize uB nd = nds at *
 generalize madeB c i xs = mb at *
 obtain ⟨v0, hv0⟩ : ∃ v0, v0 = (List.replicate c.length none3).map qU := ⟨_, rfl⟩
 obtain ⟨n, hnn⟩ : ∃ n, n = cnt c := ⟨_, rfl⟩
 rw [← hv0, ← hnn] at hmade
 obtain ⟨uB, huB⟩ : ∃ f : List Bool → Rows, f = Rd.uB := ⟨_, rfl⟩
 have uB_len : ∀ s, cnt (uB s) = cnt s := fun s => by rw [huB]; exact Rd.uB_len s
 have uB_nth : ∀ {s : List Bool} {k : Int}, 0 ≤ k → k < cnt s → ∃ b, s[k.toNat]? = some b ∧ (uB s)[k.toNat]? = some [ub b] := fun {s k} h0 h1 => by rw [huB]; exact Rd.uB_nth h0 h1
 have uB_set : ∀ (s : List Bool) (k : Nat) (b : Bool), (uB s).set k [ub b] = uB (s.set k b) := fun s k b => by rw [huB]; exact Rd.uB_set s k b
 cbv
 (repeat ((first | refine ln fun _ _ _ => ?_ | refine tt ?_ | refine ff ?_ | refine wr fun _ _ => ?_ | refine rp fun _ _ _ => ?_ | with_reducible refine bq ?_ | refine cl ?_ | refine sd ?_ | intro _ _); cbv))
 cases mb
 ·simp only [Bool.false_eq_true, if_false, if_true] at hu
  refine hmade _ (fun h => by cases h) (fun _ h => ?_)
  clear hmade hcn hnx hok
  cbv
  (repeat ((first | refine ln fun _ _ _ => ?_ | refine tt ?_ | refine ff ?_ | refine wr fun _ _ => ?_ | refine rp fun _ _ _ => ?_ | with_reducible refine bq ?_ | refine cl ?_ | refine sd ?_ | intro _ _); cbv))
  exact hu.symm
 simp only [if_true] at hu
 obtain ⟨hi0, hi1, hgc⟩ := hmb rfl
 have hok := hok hgc
 refine hmade _ (fun _ => ?_) (fun h => by cases h)
 clear hmade hmb hgc hv0
 cbv
 (repeat ((first | refine ln fun _ _ _ => ?_ | refine tt ?_ | refine ff ?_ | refine wr fun _ _ => ?_ | refine rp fun _ _ _ => ?_ | with_reducible refine bq ?_ | refine cl ?_ | refine sd ?_ | intro _ _); cbv))
 rename_i n1 hn1 hn1' rs hrs hrc n2 hn2 hn2'
 have hn12 : n1 = n := by omega
 subst hn12
 have e0 : rs = uB (divM c nd (0 : Int).toNat) := by
  rw [hrs, huB]
  show _ = Rd.uB (List.replicate c.length false)
  unfold Rd.uB
  rw [List.map_replicate]
  congr 2
  unfold cnt at hc hn1
  omega
 clear hrs
 refine lets [0, 8, 10, 28, 29, 30] ?_
 cbv
 refine loop_inv (fun j a h => ∃ (q : Int) (bs : List Bool), 0 ≤ q ∧ q ≤ n1 ∧ j = (n1 - q).toNat ∧ bs = divM c nd q.toNat ∧ a = [.s 7 cs, .lost, .lost, .lost, .lost, .lost, .lost, .lost, .ptr 1 0, .lost, .sl 2 n1 n1 1, .lost, .lost, .lost, .lost, .lost, .lost, .lost, .lost, .lost, .lost, .lost, .lost, .lost, .lost, .lost, .lost, .lost, .s 7 cs, ui n2, ui q, .lost, .lost, .lost, .lost, .lost, .lost, .lost, .lost, .lost, .lost, .lost, .lost, .lost, .lost, .lost, .lost, .lost, .lost, .lost, .lost, .lost, .lost, .lost, .lost, .lost, .lost, .lost, .lost, .lost, .lost, .lost, .lost, .lost, .lost, .lost, .lost, .lost, .lost, .lost, .lost, .lost, .lost, .lost, .lost, .lost, .lost, .lost, .lost, .lost] ∧ h = [some (.row 3 v0), some (.cells [.s 7 cs, .s 1 nds, .s 3 xr, .sl 0 n1 n1 3, ui 0]), some (.row 1 (uB bs))]) ?_ r n1.toNat _ _ (by omega) ⟨0, _, by omega, by omega, by omega, rfl, rfl, by rw [e0]⟩
 rintro j a h K ⟨q, bs, q0, q1, hj, hbs, rfl, rfl⟩ hK
 have hbl : cnt bs = n1 := by rw [hbs, divM_len, hnn]
 rcases Decidable.em (q < n1) with hlt | hlt
 ·obtain ⟨b, hb, hz⟩ := hnx q q0 (by omega)
  obtain ⟨t, ht, hy⟩ := hcn q q0 (by omega)
  have hco := term_cases (hok q t q0 ht)
  cases b
  ·have hnext := divM_no (c := c) q0 hb
   obtain ⟨kd, ta, tb, m, s, l, d⟩ := t
   clear hco
   cbv
   (repeat ((first | refine ln fun _ _ _ => ?_ | refine tt ?_ | refine ff ?_ | refine wr fun _ _ => ?_ | refine rp fun _ _ _ => ?_ | with_reducible refine bq ?_ | refine cl ?_ | refine sd ?_ | intro _ _); cbv))
   refine el ?_ (by omega) hy
   cbv
   (repeat ((first | refine ln fun _ _ _ => ?_ | refine tt ?_ | refine ff ?_ | refine wr fun _ _ => ?_ | refine rp fun _ _ _ => ?_ | with_reducible refine bq ?_ | refine cl ?_ | refine sd ?_ | intro _ _); cbv))
   refine el ?_ (by omega) hz
   cbv
   (repeat ((first | refine ln fun _ _ _ => ?_ | refine tt ?_ | refine ff ?_ | refine wr fun _ _ => ?_ | refine rp fun _ _ _ => ?_ | with_reducible refine bq ?_ | refine cl ?_ | refine sd ?_ | intro _ _); cbv))
   rename_i q' hq'
   refine lets [0, 8, 10, 28, 29, 30] ?_
   exact hK (n1 - (q + 1)).toNat _ _ (by omega) ⟨q + 1, bs, by omega, by omega, rfl, by rw [hnext, hbs], by rw [hq']; rfl, rfl⟩
  ·have hnext := divM_yes q0 hb ht
   rw [← hbs] at hnext
   obtain ⟨kd, ta, tb, m, s, l, d⟩ := t
   dsimp only at hco
   have hca : kd = 6 → 0 ≤ tb ∧ tb < q := fun h => by omega
   have hcb : kd = 8 → 0 ≤ ta ∧ ta < q := fun h => by omega
   unfold markD at hnext
   dsimp only at hnext
   cbv
   (repeat ((first | refine ln fun _ _ _ => ?_ | refine tt ?_ | refine ff ?_ | refine wr fun _ _ => ?_ | refine rp fun _ _ _ => ?_ | with_reducible refine bq ?_ | refine cl ?_ | refine sd ?_ | intro _ _); cbv))
   refine el ?_ (by omega) hy
   cbv
   (repeat ((first | refine ln fun _ _ _ => ?_ | refine tt ?_ | refine ff ?_ | refine wr fun _ _ => ?_ | refine rp fun _ _ _ => ?_ | with_reducible refine bq ?_ | refine cl ?_ | refine sd ?_ | intro _ _); cbv))
   refine el ?_ (by omega) hz
   cbv
   rcases Decidable.em (kd = 6) with h6 | h6
   ·rw [if_pos h6] at hnext
    obtain ⟨b2, hb2, hz2⟩ := uB_nth (s := bs) (hca h6).1 (by have := (hca h6).2; omega)
    have hr2 := hca h6
    clear hco hcn hnx hok hca hcb
    (repeat ((first | refine ln fun _ _ _ => ?_ | refine tt ?_ | refine ff ?_ | refine wr fun _ _ => ?_ | refine rp fun _ _ _ => ?_ | with_reducible refine bq ?_ | refine cl ?_ | refine sd ?_ | intro _ _); cbv))
    refine el ?_ (by omega) hz2
    cbv
    refine se fun ys e hyc => ?_
    obtain ⟨s3, hs3⟩ : ∃ s3, s3 = bs.set (tb).toNat true := ⟨_, rfl⟩
    have e2 : ys = uB s3 := by rw [e, hs3, ← uB_set]
    clear e hyc
    subst e2
    cbv
    (repeat ((first | refine ln fun _ _ _ => ?_ | refine tt ?_ | refine ff ?_ | refine wr fun _ _ => ?_ | refine rp fun _ _ _ => ?_ | with_reducible refine bq ?_ | refine cl ?_ | refine sd ?_ | intro _ _); cbv))
    rename_i q' hq'
    refine lets [0, 8, 10, 28, 29, 30] ?_
    exact hK (n1 - (q + 1)).toNat _ _ (by omega) ⟨q + 1, s3, by omega, by omega, rfl, by rw [hnext, hs3], by rw [hq']; rfl, rfl⟩
   rw [if_neg h6] at hnext
   rcases Decidable.em (kd = 8) with h8 | h8
   ·rcases Decidable.em (m < 0) with h9 | h9
    ·rw [if_pos ⟨h8, h9⟩] at hnext
     obtain ⟨b2, hb2, hz2⟩ := uB_nth (s := bs) (hcb h8).1 (by have := (hcb h8).2; omega)
     have hr2 := hcb h8
     clear hco hcn hnx hok hca hcb
     (repeat ((first | refine ln fun _ _ _ => ?_ | refine tt ?_ | refine ff ?_ | refine wr fun _ _ => ?_ | refine rp fun _ _ _ => ?_ | with_reducible refine bq ?_ | refine cl ?_ | refine sd ?_ | intro _ _); cbv))
     refine el ?_ (by omega) hz2
     cbv
     refine se fun ys e hyc => ?_
     obtain ⟨s3, hs3⟩ : ∃ s3, s3 = bs.set (ta).toNat true := ⟨_, rfl⟩
     have e2 : ys = uB s3 := by rw [e, hs3, ← uB_set]
     clear e hyc
     subst e2
     cbv
     (repeat ((first | refine ln fun _ _ _ => ?_ | refine tt ?_ | refine ff ?_ | refine wr fun _ _ => ?_ | refine rp fun _ _ _ => ?_ | with_reducible refine bq ?_ | refine cl ?_ | refine sd ?_ | intro _ _); cbv))
     rename_i q' hq'
     refine lets [0, 8, 10, 28, 29, 30] ?_
     exact hK (n1 - (q + 1)).toNat _ _ (by omega) ⟨q + 1, s3, by omega, by omega, rfl, by rw [hnext, hs3], by rw [hq']; rfl, rfl⟩
    ·rw [if_neg (fun h => h9 h.2)] at hnext
     clear hco hcn hnx hok
     (repeat ((first | refine ln fun _ _ _ => ?_ | refine tt ?_ | refine ff ?_ | refine wr fun _ _ => ?_ | refine rp fun _ _ _ => ?_ | with_reducible refine bq ?_ | refine cl ?_ | refine sd ?_ | intro _ _); cbv))
     rename_i q' hq'
     refine lets [0, 8, 10, 28, 29, 30] ?_
     exact hK (n1 - (q + 1)).toNat _ _ (by omega) ⟨q + 1, bs, by omega, by omega, rfl, hnext.symm, by rw [hq']; rfl, rfl⟩
   ·rw [if_neg (fun h => h8 h.1)] at hnext
    clear hco hcn hnx hok
    (repeat ((first | refine ln fun _ _ _ => ?_ | refine tt ?_ | refine ff ?_ | refine wr fun _ _ => ?_ | refine rp fun _ _ _ => ?_ | with_reducible refine bq ?_ | refine cl ?_ | refine sd ?_ | intro _ _); cbv))
    rename_i q' hq'
    refine lets [0, 8, 10, 28, 29, 30] ?_
    exact hK (n1 - (q + 1)).toNat _ _ (by omega) ⟨q + 1, bs, by omega, by omega, rfl, hnext.symm, by rw [hq']; rfl, rfl⟩
 have hqn : q = n1 := by omega
 rw [hqn, show n1.toNat = c.length by unfold cnt at hnn; omega] at hbs
 rw [← hbs] at hu
 have hnb := fun j (h0 : 0 ≤ j) (h1 : j < cnt bs) => uB_nth (s := bs) h0 h1
 have hub := uB_len bs
 clear hcn hnx hok hK
 generalize uB bs = by' at *
 cbv
 (repeat ((first | refine ln fun _ _ _ => ?_ | refine tt ?_ | refine ff ?_ | refine wr fun _ _ => ?_ | refine rp fun _ _ _ => ?_ | with_reducible refine bq ?_ | refine cl ?_ | refine sd ?_ | intro _ _); cbv))
 refine lets [13, 66, 67, 68] ?_
 cbv
 have hpc : ∀ q : Int, 0 ≤ q → cnt (picks bs q.toNat) ≤ q := fun q h => Int.le_trans (picks_cnt bs q.toNat) (Int.le_of_eq (Int.toNat_of_nonneg h))
 refine loop_inv (fun j a h => ∃ q : Int, 0 ≤ q ∧ q ≤ n1 ∧ j = (n1 - q).toNat ∧ ((picks bs q.toNat = [] ∧ a = [.lost, .lost, .lost, .lost, .lost, .lost, .lost, .lost, .lost, .lost, .lost, .lost, .lost, nilU, .lost, .lost, .lost, .lost, .lost, .lost, .lost, .lost, .lost, .lost, .lost, .lost, .lost, .lost, .lost, .lost, .lost, .lost, .lost, .lost, .lost, .lost, .lost, .lost, .lost, .lost, .lost, .lost, .lost, .lost, .lost, .lost, .lost, .lost, .lost, .lost, .lost, .lost, .lost, .lost, .lost, .lost, .lost, .lost, .lost, .lost, .lost, .lost, .lost, .lost, .lost, .lost, .sl 2 n1 n1 1, ui n1, ui q, .lost, .lost, .lost, .lost, .lost, .lost, .lost, .lost, .lost, .lost, .lost] ∧ h = [some (.row 3 v0), some (.cells [.s 7 cs, .s 1 nds, .s 3 xr, .sl 0 n1 n1 3, ui 0]), some (.row 1 by')]) ∨ (∃ (l d : Int) (row : Rows), picks bs q.toNat ≠ [] ∧ l = cnt (picks bs q.toNat) ∧ d = cnt row ∧ l ≤ d ∧ row.take l.toNat = uis (picks bs q.toNat) ∧ a = [.lost, .lost, .lost, .lost, .lost, .lost, .lost, .lost, .lost, .lost, .lost, .lost, .lost, .sl 3 l d 1, .lost, .lost, .lost, .lost, .lost, .lost, .lost, .lost, .lost, .lost, .lost, .lost, .lost, .lost, .lost, .lost, .lost, .lost, .lost, .lost, .lost, .lost, .lost, .lost, .lost, .lost, .lost, .lost, .lost, .lost, .lost, .lost, .lost, .lost, .lost, .lost, .lost, .lost, .lost, .lost, .lost, .lost, .lost, .lost, .lost, .lost, .lost, .lost, .lost, .lost, .lost, .lost, .sl 2 n1 n1 1, ui n1, ui q, .lost, .lost, .lost, .lost, .lost, .lost, .lost, .lost, .lost, .lost, .lost] ∧ h = [some (.row 3 v0), some (.cells [.s 7 cs, .s 1 nds, .s 3 xr, .sl 0 n1 n1 3, ui 0]), some (.row 1 by'), some (.row 1 row)]))) ?_ r n1.toNat _ _ (by omega) ⟨0, by omega, by omega, by omega, .inl ⟨rfl, rfl, rfl⟩⟩
 rintro j2 a h K2 ⟨p, p0, p1, hj2, hI⟩ hK2
 have hpc := hpc p p0
 rcases Decidable.em (p < n1) with hlt2 | hlt2
 ·obtain ⟨b, hb, hz⟩ := hnb p p0 (by omega)
  clear hnb hu
  rcases hI with ⟨hp, rfl, rfl⟩ | ⟨l, d, row, hp, hl, hd, hld, hrow, rfl, rfl⟩
  ·cases b
   ·have hnext := picks_no p0 hb
    cbv
    (repeat ((first | refine ln fun _ _ _ => ?_ | refine tt ?_ | refine ff ?_ | refine wr fun _ _ => ?_ | refine rp fun _ _ _ => ?_ | with_reducible refine bq ?_ | refine cl ?_ | refine sd ?_ | intro _ _); cbv))
    refine el ?_ (by omega) hz
    cbv
    (repeat ((first | refine ln fun _ _ _ => ?_ | refine tt ?_ | refine ff ?_ | refine wr fun _ _ => ?_ | refine rp fun _ _ _ => ?_ | with_reducible refine bq ?_ | refine cl ?_ | refine sd ?_ | intro _ _); cbv))
    rename_i q' hq'
    refine lets [13, 66, 67, 68] ?_
    exact hK2 (n1 - (p + 1)).toNat _ _ (by omega) ⟨p + 1, by omega, by omega, rfl, .inl ⟨by rw [hnext, hp], by rw [hq']; rfl, rfl⟩⟩
   ·have hnext := picks_yes p0 hb
    cbv
    (repeat ((first | refine ln fun _ _ _ => ?_ | refine tt ?_ | refine ff ?_ | refine wr fun _ _ => ?_ | refine rp fun _ _ _ => ?_ | with_reducible refine bq ?_ | refine cl ?_ | refine sd ?_ | intro _ _); cbv))
    refine el ?_ (by omega) hz
    cbv
    (repeat ((first | refine ln fun _ _ _ => ?_ | refine tt ?_ | refine ff ?_ | refine wr fun _ _ => ?_ | refine rp fun _ _ _ => ?_ | with_reducible refine bq ?_ | refine cl ?_ | refine sd ?_ | intro _ _); cbv))
    refine sd ?_ (by unfold cnt; simp)
    intro nn cc zs e1 e2 e3
    have e1 : nn = 1 := e1
    have t1 : cc = cnt zs := by
     rw [e3]
     unfold cnt
     simp
     omega
    have t2 : zs.take nn.toNat = uis (picks bs (p + 1).toNat) := by
     rw [hnext, hp, e1, e3]
     rfl
    have t3 : nn = cnt (picks bs (p + 1).toNat) := by rw [hnext, hp, e1]; rfl
    clear e3
    cbv
    (repeat ((first | refine ln fun _ _ _ => ?_ | refine tt ?_ | refine ff ?_ | refine wr fun _ _ => ?_ | refine rp fun _ _ _ => ?_ | with_reducible refine bq ?_ | refine cl ?_ | refine sd ?_ | intro _ _); cbv))
    rename_i q' hq'
    refine letsA [66, 67, 68] 13 3 ?_
    exact hK2 (n1 - (p + 1)).toNat _ _ (by omega) ⟨p + 1, by omega, by omega, rfl, .inr ⟨nn, cc, zs, by rw [hnext, hp]; simp, t3, t1, e2, t2, by rw [hq']; rfl, rfl⟩⟩
  ·cases b
   ·have hnext := picks_no p0 hb
    cbv
    (repeat ((first | refine ln fun _ _ _ => ?_ | refine tt ?_ | refine ff ?_ | refine wr fun _ _ => ?_ | refine rp fun _ _ _ => ?_ | with_reducible refine bq ?_ | refine cl ?_ | refine sd ?_ | intro _ _); cbv))
    refine el ?_ (by omega) hz
    cbv
    (repeat ((first | refine ln fun _ _ _ => ?_ | refine tt ?_ | refine ff ?_ | refine wr fun _ _ => ?_ | refine rp fun _ _ _ => ?_ | with_reducible refine bq ?_ | refine cl ?_ | refine sd ?_ | intro _ _); cbv))
    rename_i q' hq'
    refine letsA [66, 67, 68] 13 3 ?_
    exact hK2 (n1 - (p + 1)).toNat _ _ (by omega) ⟨p + 1, by omega, by omega, rfl, .inr ⟨l, d, row, by rwa [hnext], by rw [hnext]; exact hl, hd, hld, by rw [hnext]; exact hrow, by rw [hq']; rfl, rfl⟩⟩
   ·have hnext := picks_yes p0 hb
    cbv
    (repeat ((first | refine ln fun _ _ _ => ?_ | refine tt ?_ | refine ff ?_ | refine wr fun _ _ => ?_ | refine rp fun _ _ _ => ?_ | with_reducible refine bq ?_ | refine cl ?_ | refine sd ?_ | intro _ _); cbv))
    refine el ?_ (by omega) hz
    cbv
    (repeat ((first | refine ln fun _ _ _ => ?_ | refine tt ?_ | refine ff ?_ | refine wr fun _ _ => ?_ | refine rp fun _ _ _ => ?_ | with_reducible refine bq ?_ | refine cl ?_ | refine sd ?_ | intro _ _); cbv))
    have l0 : 0 ≤ l := by rw [hl]; exact cnt0 _
    refine sd ?_ ⟨by unfold cnt; simp, by unfold cnt; simp, by omega, hd⟩
    intro nn e1
    have e1 : nn = l + 1 := e1
    have t3 : nn = cnt (picks bs (p + 1).toNat) := by
     rw [hnext, e1, hl]
     unfold cnt
     simp
    have hne : picks bs (p + 1).toNat ≠ [] := by rw [hnext]; simp
    refine ⟨fun zs e2 e3 => ?_, fun cc zs e2 e3 e4 => ?_⟩
    ·have t1 : d = cnt zs := cnt_in l0 hd (by omega) e3
     have t2 : zs.take nn.toNat = uis (picks bs (p + 1).toNat) := by rw [hnext, e1]; exact take_in hl hrow e3
     clear e3
     cbv
     (repeat ((first | refine ln fun _ _ _ => ?_ | refine tt ?_ | refine ff ?_ | refine wr fun _ _ => ?_ | refine rp fun _ _ _ => ?_ | with_reducible refine bq ?_ | refine cl ?_ | refine sd ?_ | intro _ _); cbv))
     rename_i q' hq'
     refine letsA [66, 67, 68] 13 3 ?_
     exact hK2 (n1 - (p + 1)).toNat _ _ (by omega) ⟨p + 1, by omega, by omega, rfl, .inr ⟨nn, d, zs, hne, t3, t1, e2, t2, by rw [hq']; rfl, rfl⟩⟩
    ·have t1 : cc = cnt zs := cnt_new l0 hd hld (by omega) e4
     have t2 : zs.take nn.toNat = uis (picks bs (p + 1).toNat) := by rw [hnext, e1]; exact take_in hl hrow e4
     clear e4
     cbv
     (repeat ((first | refine ln fun _ _ _ => ?_ | refine tt ?_ | refine ff ?_ | refine wr fun _ _ => ?_ | refine rp fun _ _ _ => ?_ | with_reducible refine bq ?_ | refine cl ?_ | refine sd ?_ | intro _ _); cbv))
     rename_i q' hq'
     refine letsA [66, 67, 68] 13 4 ?_
     exact hK2 (n1 - (p + 1)).toNat _ _ (by omega) ⟨p + 1, by omega, by omega, rfl, .inr ⟨nn, cc, zs, hne, t3, t1, e3, t2, by rw [hq']; rfl, rfl⟩⟩
 ·rw [show c.length = p.toNat by unfold cnt at hnn; omega] at hu
  clear hnb hK2 hub
  rcases hI with ⟨hp, rfl, rfl⟩ | ⟨l, d, row, hp, hl, hd, hld, hrow, rfl, rfl⟩
  ·rw [hp, if_pos rfl] at hu
   cbv
   (repeat ((first | refine ln fun _ _ _ => ?_ | refine tt ?_ | refine ff ?_ | refine wr fun _ _ => ?_ | refine rp fun _ _ _ => ?_ | with_reducible refine bq ?_ | refine cl ?_ | refine sd ?_ | intro _ _); cbv))
   exact hu.symm
  ·rw [if_neg hp, ← hrow] at hu
   clear hp hrow
   cbv
   (repeat ((first | refine ln fun _ _ _ => ?_ | refine tt ?_ | refine ff ?_ | refine wr fun _ _ => ?_ | refine rp fun _ _ _ => ?_ | with_reducible refine bq ?_ | refine cl ?_ | refine sd ?_ | intro _ _); cbv))
   rename_i ys e
   rw [hu, e]
def in64 (x : Int) : Prop := -9223372036854775808 ≤ x ∧ x ≤ 9223372036854775807
structure TmOk (t : Tm) : Prop where
 k : in64 t.k
 a : in64 t.a
 b : in64 t.b
 n : in64 t.n
 q : LB t.q
theorem set_true {s : List Bool} {i j : Nat} : (s.set i true)[j]? = some true ↔ s[j]? = some true ∨ (j < s.length ∧ i = j) := by
 rw [List.getElem?_set]
 by_cases e : i = j
 ·rw [if_pos e]
  by_cases h : i < s.length
  ·rw [if_pos h]
   exact ⟨fun _ => .inr ⟨e ▸ h, e⟩, fun _ => rfl⟩
  ·rw [if_neg h]
   exact ⟨fun h => by (cases h), fun h' => by
    rcases h' with h' | h'
    ·have := (List.getElem?_eq_some_iff.1 h').1
     omega
    ·omega⟩
 ·rw [if_neg e]
  exact ⟨.inl, fun h => h.elim id fun h => absurd h.2 e⟩
theorem mark_true {j : Nat} : ∀ {ks : List Int} {s : List Bool}, (mark s ks)[j]? = some true ↔ s[j]? = some true ∨ (j < s.length ∧ ∃ k ∈ ks, k.toNat = j)
 | [], s => by
  show s[j]? = some true ↔ _
  simp
 | k :: ks, s => by
  show (mark (s.set k.toNat true) ks)[j]? = some true ↔ _
  rw [mark_true, set_true, List.length_set]
  constructor
  ·rintro ((h | h) | ⟨h, x, hx, e⟩)
   ·exact .inl h
   ·exact .inr ⟨h.1, k, List.mem_cons_self .., h.2⟩
   ·exact .inr ⟨h, x, List.mem_cons_of_mem _ hx, e⟩
  ·rintro (h | ⟨h, x, hx, e⟩)
   ·exact .inl (.inl h)
   ·rcases List.mem_cons.1 hx with rfl | hx
    ·exact .inl (.inr ⟨h, e⟩)
    ·exact .inr ⟨h, x, hx, e⟩
def Ahead (c : List Tm) : Prop := ∀ (j : Nat) t, c[j]? = some t → ∀ k ∈ kids t, 0 ≤ k ∧ k < (j : Int)
theorem ahead_of {c : List Tm} (h : goodC c = true) : Ahead c := fun j t ht k hk => kids_in (goodC_iff.1 h j t ht) k hk
theorem kidsAt_in {c : List Tm} (h : Ahead c) {j : Nat} {k : Int} (hk : k ∈ kidsAt c j) : 0 ≤ k ∧ k < (j : Int) := by
 unfold kidsAt at hk
 cases e : c[j]? with
 | none => rw [e] at hk; cases hk
 | some t => rw [e] at hk; exact h j t e k hk
theorem down_high {c : List Tm} (hc : Ahead c) {j : Nat} : ∀ (m : Nat) (s : List Bool), m ≤ j → ((down c m s)[j]? = some true ↔ s[j]? = some true)
 | 0, s, _ => Iff.rfl
 | m + 1, s, h => by
  unfold down
  rw [down_high hc m _ (by omega)]
  split
  ·rw [mark_true]
   exact ⟨fun h' => h'.elim id fun ⟨_, k, hk, e⟩ => by have := kidsAt_in hc hk; omega, .inl⟩
  ·exact Iff.rfl
theorem down_low {c : List Tm} (hc : Ahead c) {j : Nat} : ∀ (m : Nat) (s : List Bool), (down c m s)[j]? = some true → s[j]? = some true ∨ j + 1 < m
 | 0, s, h => .inl h
 | m + 1, s, h => by
  unfold down at h
  rcases down_low hc m _ h with h | h
  ·split at h
   ·rcases mark_true.1 h with h | ⟨_, k, hk, e⟩
    ·exact .inl h
    ·have := kidsAt_in hc hk
     exact .inr (by omega)
   ·exact .inl h
  ·exact .inr (by omega)
theorem needs_le {c : List Tm} (hc : Ahead c) {i j : Nat} (h : (needs c i)[j]? = some true) : j ≤ i := by
 unfold needs at h
 rcases down_low hc _ _ h with h | h
 ·rcases set_true.1 h with h | h
  ·rw [List.getElem?_replicate] at h
   split at h <;> cases h
  ·omega
 ·omega
theorem down_kid {c : List Tm} (hc : Ahead c) {j : Nat} {k : Int} (hk : k ∈ kidsAt c j) : ∀ (m : Nat) (s : List Bool), s.length = c.length → j < m → (down c m s)[j]? = some true → (down c m s)[k.toNat]? = some true
 | 0, s, _, h, _ => absurd h (by omega)
 | m + 1, s, hs, h, hd => by
  unfold down at hd ⊢
  by_cases e : j = m
  ·subst e
   rw [down_high hc j _ (Nat.le_refl _)] at hd
   have hsj : s[j]? = some true := by
    split at hd
    ·assumption
    ·exact hd
   rw [if_pos hsj]
   refine down_keep (mark_true.2 (.inr ⟨?_, k, hk, rfl⟩))
   have := (List.getElem?_eq_some_iff.1 hsj).1
   have := kidsAt_in hc hk
   omega
  ·refine down_kid hc hk m _ ?_ (by omega) hd
   split
   ·rw [mark_len, hs]
   ·exact hs
theorem needs_kid {c : List Tm} (hc : Ahead c) {i j : Nat} {t : Tm} {k : Int} (ht : c[j]? = some t) (hk : k ∈ kids t) (h : (needs c i)[j]? = some true) : (needs c i)[k.toNat]? = some true := by
 have hj := needs_le hc h
 unfold needs at h ⊢
 exact down_kid hc (by unfold kidsAt; rw [ht]; exact hk) _ _ (by rw [List.length_set, List.length_replicate]) (by omega) h
def byI (t : Tm) (i : Int) : Prop := (t.k = 6 ∧ t.b = i) ∨ (t.k = 8 ∧ t.n < 0 ∧ t.a = i)
instance (t : Tm) (i : Int) : Decidable (byI t i) := by unfold byI; exact inferInstance
theorem byI_kid {t : Tm} {i : Int} (h : byI t i) : i ∈ kids t := by
 unfold kids
 rcases h with ⟨h1, h2⟩ | ⟨h1, _, h2⟩
 ·rw [if_neg (by omega), if_pos (by omega), h2]
  simp
 ·rw [if_pos (by omega), h2]
  simp
theorem divM_true {c : List Tm} (hc : Ahead c) {nd : List Bool} {i : Nat} (hi : i < c.length) : ∀ q : Nat, (divM c nd q)[i]? = some true ↔ ∃ j t, j < q ∧ nd[j]? = some true ∧ c[j]? = some t ∧ byI t i
 | 0 => by
  unfold divM
  rw [List.getElem?_replicate, if_pos hi]
  exact ⟨fun h => by (cases h), fun ⟨j, _, h, _⟩ => absurd h (by omega)⟩
 | q + 1 => by
  have ih := divM_true hc (nd := nd) hi q
  have hl : (divM c nd q).length = c.length := cnt_eq (divM_len c nd q)
  have old : (divM c nd q)[i]? = some true → ∃ j t, j < q + 1 ∧ nd[j]? = some true ∧ c[j]? = some t ∧ byI t i := fun h => by
   obtain ⟨j, t, h1, h2⟩ := ih.1 h
   exact ⟨j, t, by omega, h2⟩
  rw [divM]
  split
  ·rename_i hq
   split
   ·rename_i t ht
    have hk := fun k (hk : k ∈ kids t) => hc q t ht k hk
    have new : (∃ j t, j < q + 1 ∧ nd[j]? = some true ∧ c[j]? = some t ∧ byI t i) ↔ (divM c nd q)[i]? = some true ∨ byI t i := by
     constructor
     ·rintro ⟨j, t', h1, h2, h3, h4⟩
      by_cases e : j = q
      ·subst e
       rw [ht] at h3
       injection h3 with h3
       exact .inr (h3 ▸ h4)
      ·exact .inl (ih.2 ⟨j, t', by omega, h2, h3, h4⟩)
     ·rintro (h | h)
      ·exact old h
      ·exact ⟨q, t, by omega, hq, ht, h⟩
    rw [new]
    unfold markD
    split
    ·rename_i h6
     rw [set_true, hl]
     have hb := hk t.b (byI_kid (.inl ⟨h6, rfl⟩))
     constructor
     ·rintro (h | h)
      ·exact .inl h
      ·exact .inr (.inl ⟨h6, by omega⟩)
     ·rintro (h | h | h)
      ·exact .inl h
      ·exact .inr ⟨hi, by omega⟩
      ·omega
    ·rename_i h6
     split
     ·rename_i h8
      rw [set_true, hl]
      have ha := hk t.a (byI_kid (.inr ⟨h8.1, h8.2, rfl⟩))
      constructor
      ·rintro (h | h)
       ·exact .inl h
       ·exact .inr (.inr ⟨h8.1, h8.2, by omega⟩)
      ·rintro (h | h | h)
       ·exact .inl h
       ·exact absurd h.1 h6
       ·exact .inr ⟨hi, by omega⟩
     ·rename_i h8
      exact ⟨.inl, fun h => h.elim id fun h => by
       rcases h with h | h
       ·exact absurd h.1 h6
       ·exact absurd ⟨h.1, h.2.1⟩ h8⟩
   ·rename_i hn
    refine ⟨old, fun ⟨j, t, h1, h2, h3, h4⟩ => ih.2 ⟨j, t, ?_, h2, h3, h4⟩⟩
    rcases Nat.lt_or_ge j q with h | h
    ·exact h
    ·rw [show j = q by omega, hn] at h3
     cases h3
  ·rename_i hq
   refine ⟨old, fun ⟨j, t, h1, h2, h3, h4⟩ => ih.2 ⟨j, t, ?_, h2, h3, h4⟩⟩
   rcases Nat.lt_or_ge j q with h | h
   ·exact h
   ·rw [show j = q by omega] at h2
    exact absurd h2 hq
theorem picks_none {s : List Bool} {m : Nat} (h : ∀ j, m ≤ j → s[j]? ≠ some true) : ∀ n, m ≤ n → picks s n = picks s m
 | 0, h' => by rw [show m = 0 by omega]
 | n + 1, h' => by
  by_cases e : m = n + 1
  ·rw [e]
  ·rw [picks, if_neg (h n (by omega)), picks_none h n (by omega)]
theorem trim1R {l : List Int} (hl : Limbs l) (hs : cnt l ≤ 1000000) : steelyardref01_Trim.R [.l l] (.l (N (V l))) := by obtain ⟨k, hk⟩ := (trim1_tells hl (by unfold cnt at hs; omega)).rounds; exact ⟨k, _, _, rfl, hk, rfl⟩
theorem of2R {a b : List Int} (ha : Limbs a) (hb : Limbs b) (h1 : cnt a ≤ 1000000) (h2 : cnt b ≤ 1000000) : steelyardref02_Of.R [.l a, .l b] (.l (N (V a * V b))) := by obtain ⟨k, hk⟩ := (mul2_tells ha hb (by unfold cnt at h1; omega) (by unfold cnt at h2; omega)).rounds; exact ⟨k, _, _, _, rfl, hk, rfl⟩
theorem gcd3R {a b : List Int} (ha : Limbs a) (hb : Limbs b) (h1 : cnt a ≤ 1000000) (h2 : cnt b ≤ 1000000) : steelyardref03_Gcd.R [.l a, .l b] (.l (N (Nat.gcd (V a) (V b)))) := by obtain ⟨k, hk⟩ := (gcd3_tells ha hb (by unfold cnt at h1; omega) (by unfold cnt at h2; omega)).rounds; exact ⟨k, _, _, _, rfl, hk, rfl⟩
theorem rem3R {a b : List Int} (ha : Limbs a) (hb : Limbs b) (h1 : cnt a ≤ 1000000) (h2 : cnt b ≤ 1000000) (hz : V b ≠ 0) : steelyardref03_Rem.R [.l a, .l b] (.agg [.l (N (V a / V b)), .l (N (V a % V b)), ub true]) := by
 obtain ⟨k, hk⟩ := (rem3_tells ha hb (by unfold cnt at h1; omega) (by unfold cnt at h2; omega)).rounds
 rw [if_neg hz] at hk
 exact ⟨k, _, _, _, _, _, rfl, hk, rfl⟩
theorem of1R {r : Int} (h0 : 0 ≤ r) (h1 : r < 18446744073709551616) : steelyardref01_Of.R [.v (.int .u64 r)] (.l (N r.toNat)) := by obtain ⟨k, hk⟩ := (of1_tells h0 h1).rounds; exact ⟨k, _, _, rfl, hk, rfl⟩
def make6R (us : List U) (u : U) : Prop := ∃ s l, Limbs l ∧ cnt l ≤ 1000000 ∧ us = [ub s, .l l] ∧ u = uI (Z s l)
theorem make6_ok : SoundF Tryz.prog 69 make6R := sound [(81, steelyardref01_Trim.R)] (orc_cons steelyardref01_Trim.sound orc_nil) Tryz.func69 (by kernel_rfl) (by kernel_rfl) fun us u hR => ⟨0, fun C E hC => by
 obtain ⟨s, l, hl, hs, rfl, hu⟩ := hR
 rw [uI_Z] at hu
 obtain ⟨l', k1, el⟩ := tN (hC 81 steelyardref01_Trim.R (by simp) _ _ (trim1R hl hs))
 rw [← el] at hu
 clear el
 have g := cnt0 l'
 by_cases h0 : 0 < cnt l' <;> cases s <;> cbv <;> (repeat ((first | refine ln fun _ _ _ => ?_ | refine tt ?_ | refine ff ?_ | refine wr fun _ _ => ?_ | refine wu fun _ _ => ?_ | refine rp fun _ _ _ => ?_ | refine cp fun _ => ?_ | with_reducible refine bq ?_ | refine cl ?_ | refine sd ?_ | intro _ _); cbv)) <;> (rw [hu]; simp [h0])⟩
def trim6R (us : List U) (u : U) : Prop := ∃ s l, Limbs l ∧ cnt l ≤ 1000000 ∧ us = [.agg [ub s, .l l]] ∧ u = uI (Z s l)
theorem trim6_ok : SoundF Tryz.prog 116 trim6R := sound [(69, make6R)] (orc_cons make6_ok orc_nil) Tryz.func116 (by kernel_rfl) (by kernel_rfl) fun us u hR => ⟨0, fun C E hC => by
 obtain ⟨s, l, hl, hs, rfl, hu⟩ := hR
 obtain ⟨s1, l1, k1, e1, e2⟩ := tI (hC 69 make6R (by simp) _ _ ⟨s, l, hl, hs, rfl, rfl⟩)
 cbv
 (repeat ((first | refine ln fun _ _ _ => ?_ | refine tt ?_ | refine ff ?_ | refine wr fun _ _ => ?_ | refine wu fun _ _ => ?_ | refine rp fun _ _ _ => ?_ | refine cp fun _ => ?_ | with_reducible refine bq ?_ | refine cl ?_ | refine sd ?_ | intro _ _); cbv))
 rw [hu, e1, e2]; rfl⟩
def mul6R (us : List U) (u : U) : Prop := ∃ s1 l1 s2 l2, Limbs l1 ∧ Limbs l2 ∧ cnt l1 ≤ 100000 ∧ cnt l2 ≤ 100000 ∧ us = [.agg [ub s1, .l l1], .agg [ub s2, .l l2]] ∧ u = uI (Z s1 l1 * Z s2 l2)
theorem mul6_ok : SoundF Tryz.prog 98 mul6R := sound [(69, make6R), (116, trim6R), (99, steelyardref02_Of.R)] (orc_cons make6_ok (orc_cons trim6_ok (orc_cons steelyardref02_Of.sound orc_nil))) Tryz.func98 (by kernel_rfl) (by kernel_rfl) fun us u hR => ⟨0, fun C E hC => by
 obtain ⟨s1, l1, s2, l2, h1, h2, c1, c2, rfl, hu⟩ := hR
 obtain ⟨t1, m1, k1, e1, f1⟩ := tI (hC 116 trim6R (by simp) _ _ ⟨s1, l1, h1, by omega, rfl, rfl⟩)
 obtain ⟨t2, m2, k2, e2, f2⟩ := tI (hC 116 trim6R (by simp) _ _ ⟨s2, l2, h2, by omega, rfl, rfl⟩)
 have c3 := cnt_mul h1 h2
 have sm := sign_mul (Z s1 l1) (Z s2 l2)
 rw [← e1, ← e2, Z_abs, Z_abs] at sm
 have k3 := hC 99 steelyardref02_Of.R (by simp) _ _ (of2R h1 h2 (by omega) (by omega))
 have k4 := hC 69 make6R (by simp) _ _ ⟨t1 != t2, N (V l1 * V l2), N_limbs _, by omega, rfl, rfl⟩
 rw [sm, ← hu] at k4
 obtain ⟨s4, l4, hu'⟩ : ∃ s l, u = .agg [ub s, .l l] := ⟨_, _, hu⟩
 rw [hu'] at k4
 clear hu sm e1 e2 f1 f2 c3
 generalize N (V l1 * V l2) = l3 at *
 cases t1 <;> cases t2 <;> cbv <;> (repeat ((first | refine ln fun _ _ _ => ?_ | refine tt ?_ | refine ff ?_ | refine wr fun _ _ => ?_ | refine wu fun _ _ => ?_ | refine rp fun _ _ _ => ?_ | refine cp fun _ => ?_ | with_reducible refine bq ?_ | refine cl ?_ | refine sd ?_ | intro _ _); cbv)) <;> exact hu'.symm⟩
def of6R (us : List U) (u : U) : Prop := ∃ v : Int, -9223372036854775808 ≤ v ∧ v ≤ 9223372036854775807 ∧ us = [ui v] ∧ u = uI v
theorem of6_ok : SoundF Tryz.prog 70 of6R := sound [(69, make6R), (100, steelyardref01_Of.R)] (orc_cons make6_ok (orc_cons steelyardref01_Of.sound orc_nil)) Tryz.func70 (by kernel_rfl) (by kernel_rfl) fun us u hR => ⟨0, fun C E hC => by
 obtain ⟨v, h0, h1, rfl, hu⟩ := hR
 have hl : len v.natAbs ≤ 2 := len_le.2 (by omega)
 have k1 : ∀ r : Int, 0 ≤ r → (r = v ∨ r = -v) → C 100 [.v (.int .u64 r)] (.l (N v.natAbs)) := fun r g0 g1 => by
  have := hC 100 steelyardref01_Of.R (by simp) _ _ (of1R (r := r) (by omega) (by omega))
  rwa [show r.toNat = v.natAbs by omega] at this
 have k2 := hC 69 make6R (by simp) _ _ ⟨decide (v < 0), N v.natAbs, N_limbs _, by rw [cnt_N]; omega, rfl, rfl⟩
 rw [show Z (decide (v < 0)) (N v.natAbs) = v from Z_I v, ← hu] at k2
 obtain ⟨s4, l4, hu'⟩ : ∃ s l, u = .agg [ub s, .l l] := ⟨_, _, hu⟩
 rw [hu'] at k2
 generalize N v.natAbs = l at *
 by_cases h : v < 0
 ·rw [decide_eq_true h] at k2
  cbv
  refine tt ?_
  cbv
  refine wr fun r1 q1 => ?_
  cbv
  refine wr fun r2 q2 => ?_
  cbv
  refine wu fun r3 q3 => ?_
  cbv
  refine wu fun r4 q4 => ?_
  cbv
  refine cl ?_ (k1 r4 (by omega) (by omega))
  cbv
  (repeat ((first | refine ln fun _ _ _ => ?_ | refine tt ?_ | refine ff ?_ | refine wr fun _ _ => ?_ | refine wu fun _ _ => ?_ | refine rp fun _ _ _ => ?_ | refine cp fun _ => ?_ | with_reducible refine bq ?_ | refine cl ?_ | refine sd ?_ | intro _ _); cbv))
  exact hu'.symm
 ·rw [decide_eq_false h] at k2
  cbv
  refine ff ?_
  cbv
  refine wu fun r1 q1 => ?_
  cbv
  refine cl ?_ (k1 r1 (by omega) (by omega))
  cbv
  (repeat ((first | refine ln fun _ _ _ => ?_ | refine tt ?_ | refine ff ?_ | refine wr fun _ _ => ?_ | refine wu fun _ _ => ?_ | refine rp fun _ _ _ => ?_ | refine cp fun _ => ?_ | with_reducible refine bq ?_ | refine cl ?_ | refine sd ?_ | intro _ _); cbv))
  exact hu'.symm⟩
theorem limb1 {g : Nat} (h : len g = 1) : N g = [(g : Int)] := by
  obtain ⟨y, hy⟩ := List.length_eq_one_iff.1 (show (N g).length = 1 by rw [N_length]; exact h)
  have e : rd (N g) 0 = (g : Int) := by
    have h2 := rd_V (N_limbs g) 0
    have h3 := rd_nonneg (N_limbs g) ((0 : Nat) : Int)
    have h4 := len_le.1 (Nat.le_of_eq h)
    rw [V_N, Nat.pow_zero, Nat.div_one] at h2
    rw [Nat.pow_one] at h4
    rw [Nat.mod_eq_of_lt h4] at h2
    have : rd (N g) 0 = rd (N g) ((0 : Nat) : Int) := rfl
    omega
  rw [hy] at e ⊢
  rw [← e]; rfl
theorem good7_ok : SoundF Tryz.prog 44 goodR := sound [(71, steelyardref07_trimmed.R), (72, steelyardref03_Gcd.R)] (orc_cons steelyardref07_trimmed.sound (orc_cons steelyardref03_Gcd.sound orc_nil)) Tryz.func44 (by kernel_rfl) (by kernel_rfl) fun us u hR => ⟨0, fun C E hC => by
  obtain ⟨⟨s, l, b⟩, ⟨hl, hb, hsl, hsb⟩, rfl, hu⟩ := hR
  have hl : Limbs l := hl
  have hb : Limbs b := hb
  have k1 := hC 71 steelyardref07_trimmed.R (by simp) [.l l] _ ⟨_, _, rfl, trimmed7_tells hl hsl, rfl⟩
  have k2 := hC 71 steelyardref07_trimmed.R (by simp) [.l b] _ ⟨_, _, rfl, trimmed7_tells hb hsb, rfl⟩
  clear hsl hsb
  have g1 := cnt0 l
  have g2 := cnt0 b
  unfold goodB at hu
  dsimp only at hu
  have e1 : (decide (b.length ≠ 0)) = decide (cnt b ≠ 0) := by rw [decide_eq_decide]; unfold cnt; omega
  have e2 : (decide (b.length ≤ 64)) = decide (cnt b ≤ 64) := by rw [decide_eq_decide]; unfold cnt; omega
  have e3 : (decide (l.length ≤ 64)) = decide (cnt l ≤ 64) := by rw [decide_eq_decide]; unfold cnt; omega
  have e4 : (decide (l.length = 0)) = decide (cnt l = 0) := by rw [decide_eq_decide]; unfold cnt; omega
  rw [e1, e2, e3, e4] at hu
  clear e1 e2 e3 e4
  generalize decide (N (V l) = l) = t1 at *
  generalize decide (N (V b) = b) = t2 at *
  cases t1
  · cbv; (repeat ((first | refine ln fun _ _ _ => ?_ | refine tt ?_ | refine ff ?_ | refine wr fun _ _ => ?_ | refine wu fun _ _ => ?_ | refine rp fun _ _ _ => ?_ | refine cp fun _ => ?_ | with_reducible refine bq ?_ | refine cl ?_ | refine sd ?_ | intro _ _); cbv)); rw [hu]; rfl
  cases t2
  · cbv; (repeat ((first | refine ln fun _ _ _ => ?_ | refine tt ?_ | refine ff ?_ | refine wr fun _ _ => ?_ | refine wu fun _ _ => ?_ | refine rp fun _ _ _ => ?_ | refine cp fun _ => ?_ | with_reducible refine bq ?_ | refine cl ?_ | refine sd ?_ | intro _ _); cbv)); rw [hu]; rfl
  by_cases h3 : cnt b = 0
  · cbv; (repeat ((first | refine ln fun _ _ _ => ?_ | refine tt ?_ | refine ff ?_ | refine wr fun _ _ => ?_ | refine wu fun _ _ => ?_ | refine rp fun _ _ _ => ?_ | refine cp fun _ => ?_ | with_reducible refine bq ?_ | refine cl ?_ | refine sd ?_ | intro _ _); cbv)); rw [hu]; simp [h3]
  by_cases h4 : cnt b ≤ 64
  case neg => cases s <;> by_cases h6 : cnt l = 0 <;> by_cases h5 : cnt l ≤ 64 <;> cbv <;> (repeat ((first | refine ln fun _ _ _ => ?_ | refine tt ?_ | refine ff ?_ | refine wr fun _ _ => ?_ | refine wu fun _ _ => ?_ | refine rp fun _ _ _ => ?_ | refine cp fun _ => ?_ | with_reducible refine bq ?_ | refine cl ?_ | refine sd ?_ | intro _ _); cbv)) <;> (rw [hu]; simp [h4])
  by_cases h5 : cnt l ≤ 64
  case neg => cases s <;> cbv <;> (repeat ((first | refine ln fun _ _ _ => ?_ | refine tt ?_ | refine ff ?_ | refine wr fun _ _ => ?_ | refine wu fun _ _ => ?_ | refine rp fun _ _ _ => ?_ | refine cp fun _ => ?_ | with_reducible refine bq ?_ | refine cl ?_ | refine sd ?_ | intro _ _); cbv)) <;> (rw [hu]; simp [h5])
  have k3 := hC 72 steelyardref03_Gcd.R (by simp) _ _ (gcd3R hl hb (by omega) (by omega))
  obtain ⟨g, eg⟩ : ∃ g, g = Nat.gcd (V l) (V b) := ⟨_, rfl⟩
  rw [show decide (Nat.gcd (V l) (V b) = 1) = decide (g = 1) by rw [eg]] at hu
  rw [← eg] at k3
  clear eg
  by_cases h7 : len g = 1
  · have hc : cnt (N g) = 1 := by rw [cnt_N]; omega
    have hi : (N g)[(0 : Int).toNat]? = some (g : Int) := by rw [limb1 h7]; rfl
    generalize N g = l3 at *
    rw [show decide (g = 1) = decide ((g : Int) = 1) by rw [decide_eq_decide]; omega] at hu
    generalize (g : Int) = y at *
    clear h7
    cases s
    · by_cases hd : y = 1 <;> cbv <;> (repeat ((first | refine ln fun _ _ _ => ?_ | refine tt ?_ | refine ff ?_ | refine wr fun _ _ => ?_ | refine wu fun _ _ => ?_ | refine rp fun _ _ _ => ?_ | refine cp fun _ => ?_ | with_reducible refine bq ?_ | refine cl ?_ | refine sd ?_ | intro _ _); cbv)) <;> (refine ei ?_ (by omega) hi) <;> cbv <;> (repeat ((first | refine ln fun _ _ _ => ?_ | refine tt ?_ | refine ff ?_ | refine wr fun _ _ => ?_ | refine wu fun _ _ => ?_ | refine rp fun _ _ _ => ?_ | refine cp fun _ => ?_ | with_reducible refine bq ?_ | refine cl ?_ | refine sd ?_ | intro _ _); cbv)) <;> (rw [hu]; simp [h3, h4, h5, hd])
    · by_cases h6 : cnt l = 0
      · cbv; (repeat ((first | refine ln fun _ _ _ => ?_ | refine tt ?_ | refine ff ?_ | refine wr fun _ _ => ?_ | refine wu fun _ _ => ?_ | refine rp fun _ _ _ => ?_ | refine cp fun _ => ?_ | with_reducible refine bq ?_ | refine cl ?_ | refine sd ?_ | intro _ _); cbv)); rw [hu]; simp [h6]
      · by_cases hd : y = 1 <;> cbv <;> (repeat ((first | refine ln fun _ _ _ => ?_ | refine tt ?_ | refine ff ?_ | refine wr fun _ _ => ?_ | refine wu fun _ _ => ?_ | refine rp fun _ _ _ => ?_ | refine cp fun _ => ?_ | with_reducible refine bq ?_ | refine cl ?_ | refine sd ?_ | intro _ _); cbv)) <;> (refine ei ?_ (by omega) hi) <;> cbv <;> (repeat ((first | refine ln fun _ _ _ => ?_ | refine tt ?_ | refine ff ?_ | refine wr fun _ _ => ?_ | refine wu fun _ _ => ?_ | refine rp fun _ _ _ => ?_ | refine cp fun _ => ?_ | with_reducible refine bq ?_ | refine cl ?_ | refine sd ?_ | intro _ _); cbv)) <;> (rw [hu]; simp [h3, h4, h5, h6, hd])
  · have h8 : ¬ cnt (N g) = 1 := by rw [cnt_N]; omega
    have h9 : ¬ g = 1 := fun h => h7 (by rw [h]; decide +kernel)
    rw [decide_eq_false h9] at hu
    generalize N g = l3 at *
    clear h7 h9
    cases s
    · cbv; (repeat ((first | refine ln fun _ _ _ => ?_ | refine tt ?_ | refine ff ?_ | refine wr fun _ _ => ?_ | refine wu fun _ _ => ?_ | refine rp fun _ _ _ => ?_ | refine cp fun _ => ?_ | with_reducible refine bq ?_ | refine cl ?_ | refine sd ?_ | intro _ _); cbv)); rw [hu]; simp
    · by_cases h6 : cnt l = 0
      · cbv; (repeat ((first | refine ln fun _ _ _ => ?_ | refine tt ?_ | refine ff ?_ | refine wr fun _ _ => ?_ | refine wu fun _ _ => ?_ | refine rp fun _ _ _ => ?_ | refine cp fun _ => ?_ | with_reducible refine bq ?_ | refine cl ?_ | refine sd ?_ | intro _ _); cbv)); rw [hu]; simp [h6]
      · cbv; (repeat ((first | refine ln fun _ _ _ => ?_ | refine tt ?_ | refine ff ?_ | refine wr fun _ _ => ?_ | refine wu fun _ _ => ?_ | refine rp fun _ _ _ => ?_ | refine cp fun _ => ?_ | with_reducible refine bq ?_ | refine cl ?_ | refine sd ?_ | intro _ _); cbv)); rw [hu]; simp⟩
def u76 (a : R4) : U := .agg [ub a.1, .l a.2.1, .l a.2.2.1, ui a.2.2.2]
theorem u76_parts (a : R4) : ∃ s l b e, u76 a = .agg [ub s, .l l, .l b, ui e] ∧ (s, l, b, e) = a := ⟨_, _, _, _, rfl, rfl⟩
def wideR (us : List U) (u : U) : Prop := ∃ s l b, Limbs l ∧ Limbs b ∧ cnt l ≤ 500000 ∧ cnt b ≤ 500000 ∧ V b ≠ 0 ∧ us = [.agg [ub s, .l l], .l b] ∧ u = uR (ratOf (mkRat (Z s l) (V b)))
theorem wide_ok : SoundF Tryz.prog 97 wideR := sound [(116, trim6R), (69, make6R), (72, steelyardref03_Gcd.R), (101, steelyardref03_Rem.R)] (orc_cons trim6_ok (orc_cons make6_ok (orc_cons steelyardref03_Gcd.sound (orc_cons steelyardref03_Rem.sound orc_nil)))) Tryz.func97 (by kernel_rfl) (by kernel_rfl) fun us u hR => ⟨0, fun C E hC => by
  obtain ⟨s, l, b, hl, hb, c1, c2, hz, rfl, hu⟩ := hR
  obtain ⟨s1, l1, k1, e1, e2⟩ := tI (hC 116 trim6R (by simp) _ _ ⟨s, l, hl, by omega, rfl, rfl⟩)
  have b1 := lenV hl
  have b2 := lenV hb
  rw [← Z_abs s l] at b1
  generalize Z s l = z at *
  obtain ⟨p1, p2, p3⟩ := mk_parts z (V b) hz
  have hg : 0 < Nat.gcd z.natAbs (V b) := Nat.gcd_pos_of_pos_right _ (by omega)
  have hgb : len (Nat.gcd z.natAbs (V b)) ≤ len (V b) := len_mono (Nat.gcd_le_right _ (by omega))
  have k3 := hC 72 steelyardref03_Gcd.R (by simp) _ _ (gcd3R (a := l1) (e2 ▸ N_limbs _) hb (by rw [e2, cnt_N]; omega) (by omega))
  have v1 : V l1 = z.natAbs := by rw [e2, V_N]
  have q1 : cnt l1 = len z.natAbs := by rw [e2, cnt_N]
  rw [v1] at k3
  have k4 := hC 101 steelyardref03_Rem.R (by simp) _ _ (rem3R (a := l1) (e2 ▸ N_limbs _) (N_limbs (Nat.gcd z.natAbs (V b))) (by omega) (by rw [cnt_N]; omega) (by rw [V_N]; omega))
  have k5 := hC 101 steelyardref03_Rem.R (by simp) _ _ (rem3R hb (N_limbs (Nat.gcd z.natAbs (V b))) (by omega) (by rw [cnt_N]; omega) (by rw [V_N]; omega))
  rw [v1, V_N, ← p1] at k4
  rw [V_N, ← p2] at k5
  have hx : len (mkRat z (V b)).num.natAbs ≤ len z.natAbs := by rw [p1]; exact len_mono (Nat.div_le_self _ _)
  have k6 := hC 69 make6R (by simp) _ _ ⟨s1, N (mkRat z (V b)).num.natAbs, N_limbs _, by rw [cnt_N]; omega, rfl, rfl⟩
  rw [show Z s1 (N (mkRat z (V b)).num.natAbs) = (mkRat z (V b)).num by rw [e1, ← p3]; exact Z_I _] at k6
  obtain ⟨s7, l7, k6, i7, i8⟩ := tI k6
  have hu' : u = .agg [ub s7, .l l7, .l (N (mkRat z (V b)).den)] := by rw [hu, i7, i8]; rfl
  clear hu i7 i8 e1 e2 p1 p2 p3 hg hgb v1 b1 b2 q1 hb hl hz hx c1 c2
  generalize N (mkRat z (V b)).num.natAbs = l3 at *
  generalize N (mkRat z (V b)).den = l4 at *
  generalize N (Nat.gcd z.natAbs (V b)) = l6 at *
  generalize N (z.natAbs % Nat.gcd z.natAbs (V b)) = l8 at *
  generalize N (V b % Nat.gcd z.natAbs (V b)) = l9 at *
  cbv; (repeat ((first | refine ln fun _ _ _ => ?_ | refine tt ?_ | refine ff ?_ | refine wr fun _ _ => ?_ | refine wu fun _ _ => ?_ | refine rp fun _ _ _ => ?_ | refine cp fun _ => ?_ | with_reducible refine bq ?_ | refine cl ?_ | refine sd ?_ | intro _ _); cbv)); exact hu'.symm⟩
def limitR (us : List U) (u : U) : Prop := ∃ q, us = [uR (ratOf q)] ∧ u = u76 (lim q)
theorem limit_ok : SoundF Tryz.prog 67 limitR := sound [] orc_nil Tryz.func67 (by kernel_rfl) (by kernel_rfl) fun us u hR => ⟨0, fun C E hC => by
  obtain ⟨q, rfl, hu⟩ := hR
  have hu2 : u = if cnt (N q.num.natAbs) ≤ 64 ∧ cnt (N q.den) ≤ 64 then .agg [ub (decide (q.num < 0)), .l (N q.num.natAbs), .l (N q.den), ui 0] else .agg [ub false, .l [], .l [], ui 2] := by
    rw [hu, cnt_N, cnt_N]
    unfold lim fits
    by_cases h : len q.num.natAbs ≤ 64 ∧ len q.den ≤ 64
    · rw [if_pos (by simpa using h), if_pos (by omega)]; rfl
    · rw [if_neg (by simpa using h), if_neg (by omega)]; rfl
  clear hu
  unfold uR ratOf
  dsimp only
  generalize decide (q.num < 0) = s at *
  generalize N q.num.natAbs = l at *
  generalize N q.den = b at *
  by_cases h1 : cnt l ≤ 64
  · by_cases h2 : cnt b ≤ 64
    · rw [if_pos ⟨h1, h2⟩] at hu2
      cbv; (repeat ((first | refine ln fun _ _ _ => ?_ | refine tt ?_ | refine ff ?_ | refine wr fun _ _ => ?_ | refine wu fun _ _ => ?_ | refine rp fun _ _ _ => ?_ | refine cp fun _ => ?_ | with_reducible refine bq ?_ | refine cl ?_ | refine sd ?_ | intro _ _); cbv)); exact hu2.symm
    · rw [if_neg (by omega)] at hu2
      cbv; (repeat ((first | refine ln fun _ _ _ => ?_ | refine tt ?_ | refine ff ?_ | refine wr fun _ _ => ?_ | refine wu fun _ _ => ?_ | refine rp fun _ _ _ => ?_ | refine cp fun _ => ?_ | with_reducible refine bq ?_ | refine cl ?_ | refine sd ?_ | intro _ _); cbv)); exact hu2.symm
  · rw [if_neg (by omega)] at hu2
    cbv; (repeat ((first | refine ln fun _ _ _ => ?_ | refine tt ?_ | refine ff ?_ | refine wr fun _ _ => ?_ | refine wu fun _ _ => ?_ | refine rp fun _ _ _ => ?_ | refine cp fun _ => ?_ | with_reducible refine bq ?_ | refine cl ?_ | refine sd ?_ | intro _ _); cbv)); exact hu2.symm⟩
def timesR (us : List U) (u : U) : Prop := ∃ p s l b, fits p = true ∧ Limbs l ∧ Limbs b ∧ cnt l ≤ 64 ∧ cnt b ≤ 64 ∧ V b ≠ 0 ∧ us = [uR (ratOf p), .agg [ub s, .l l, .l b]] ∧ u = uR (ratOf (mkRat (p.num * Z s l) (p.den * V b)))
theorem times_ok : SoundF Tryz.prog 68 timesR := sound [(98, mul6R), (99, steelyardref02_Of.R), (97, wideR)] (orc_cons mul6_ok (orc_cons steelyardref02_Of.sound (orc_cons wide_ok orc_nil))) Tryz.func68 (by kernel_rfl) (by kernel_rfl) fun us u hR => ⟨0, fun C E hC => by
  obtain ⟨p, s, l, b, hp, hl, hb, c1, c2, hz, rfl, hu⟩ := hR
  obtain ⟨s1, l1, b1, e, f1, f2, f3, f4, f5, f6, f7, f8⟩ := rat_parts hp
  rw [e]
  have k1 := hC 98 mul6R (by simp) _ _ ⟨s1, l1, s, l, f1, hl, by omega, by omega, rfl, rfl⟩
  rw [f5] at k1
  have k2 := hC 99 steelyardref02_Of.R (by simp) _ _ (of2R f2 hb (by omega) (by omega))
  rw [f6] at k2
  have m1 := len_mulZ p.num (Z s l)
  have m2 := len_mul p.den (V b)
  obtain ⟨n1, n2⟩ := fits_len hp
  have n3 := lenV hl
  have n4 := lenV hb
  rw [Z_abs] at m1
  obtain ⟨s2, l2, k1, i1, i2⟩ := tI k1
  obtain ⟨l3, k2, i3⟩ := tN k2
  obtain ⟨s4, l4, b4, k3, i4⟩ := tR (hC 97 wideR (by simp) _ _ ⟨s2, l2, l3, i2 ▸ N_limbs _, i3 ▸ N_limbs _, by rw [i2, cnt_N]; omega, by rw [i3, cnt_N]; omega, by rw [i3, V_N]; exact Nat.mul_ne_zero p.den_nz hz, rfl, rfl⟩)
  rw [show Z s2 l2 = p.num * Z s l by rw [i1, i2]; exact Z_I _, show V l3 = p.den * V b by rw [i3, V_N]] at i4
  rw [← i4] at hu
  clear e i1 i2 i3 i4 m1 m2 n1 n2 n3 n4 f1 f2 f3 f4 f5 f6 f7 f8 hp hz
  cbv; (repeat ((first | refine ln fun _ _ _ => ?_ | refine tt ?_ | refine ff ?_ | refine wr fun _ _ => ?_ | refine wu fun _ _ => ?_ | refine rp fun _ _ _ => ?_ | refine cp fun _ => ?_ | with_reducible refine bq ?_ | refine cl ?_ | refine sd ?_ | intro _ _); cbv)); exact hu.symm⟩
def div7R (us : List U) (u : U) : Prop := ∃ a b : R3, LB a ∧ LB b ∧ us = [uR a, uR b] ∧ u = u76 (divS a b)
theorem div7_ok : SoundF Tryz.prog 42 div7R := sound [(44, goodR), (69, make6R), (68, timesR), (67, limitR)] (orc_cons good7_ok (orc_cons make6_ok (orc_cons times_ok (orc_cons limit_ok orc_nil)))) Tryz.func42 (by kernel_rfl) (by kernel_rfl) fun us u hR => ⟨0, fun C E hC => by
  obtain ⟨⟨s1, l1, b1⟩, ⟨s2, l2, b2⟩, ha, hb, rfl, hu⟩ := hR
  have k1 := hC 44 goodR (by simp) _ _ ⟨_, ha, rfl, rfl⟩
  have k2 := hC 44 goodR (by simp) _ _ ⟨_, hb, rfl, rfl⟩
  clear ha hb
  unfold divS at hu
  by_cases h1 : goodB (s1, l1, b1) = true
  case neg =>
    rw [Bool.eq_false_iff.2 h1] at k1 hu
    rw [Bool.false_and, if_neg (by simp), show u76 (bad 1) = .agg [ub false, .l [], .l [], ui 1] from rfl] at hu
    cbv; (repeat ((first | refine ln fun _ _ _ => ?_ | refine tt ?_ | refine ff ?_ | refine wr fun _ _ => ?_ | refine wu fun _ _ => ?_ | refine rp fun _ _ _ => ?_ | refine cp fun _ => ?_ | with_reducible refine bq ?_ | refine cl ?_ | refine sd ?_ | intro _ _); cbv)); exact hu.symm
  by_cases h2 : goodB (s2, l2, b2) = true
  case neg =>
    rw [h1] at k1
    rw [Bool.eq_false_iff.2 h2] at k2 hu
    rw [Bool.and_false, if_neg (by simp), show u76 (bad 1) = .agg [ub false, .l [], .l [], ui 1] from rfl] at hu
    cbv; (repeat ((first | refine ln fun _ _ _ => ?_ | refine tt ?_ | refine ff ?_ | refine wr fun _ _ => ?_ | refine wu fun _ _ => ?_ | refine rp fun _ _ _ => ?_ | refine cp fun _ => ?_ | with_reducible refine bq ?_ | refine cl ?_ | refine sd ?_ | intro _ _); cbv)); exact hu.symm
  rw [h1] at k1 hu
  rw [h2] at k2 hu
  rw [Bool.true_and, if_pos rfl] at hu
  obtain ⟨p, hp, e1, f1, f2, f3, f4, f5, f6, f7, f8⟩ := good_parts h1
  obtain ⟨q, hq, e2, g1, g2, g3, g4, g5, g6, g7, g8⟩ := good_parts h2
  rw [e1, e2] at hu
  obtain ⟨p', hp', ep⟩ := good_iff.1 h1
  have : p' = p := by rw [← qOf_ratOf p', ← ep, e1]
  subst this
  have el : cnt l2 = len q.num.natAbs := by
    obtain ⟨q', hq', eq⟩ := good_iff.1 h2
    have : q' = q := by rw [← qOf_ratOf q', ← eq, e2]
    subst this
    injection eq with _ eq
    injection eq with eq _
    rw [eq, cnt_N]
  have h0 : len q.num.natAbs = 0 ↔ q.num.natAbs = 0 := len_eq_zero
  by_cases hz : q = 0
  · have hn : q.num = 0 := Rat.num_eq_zero.2 hz
    rw [if_pos hz, show u76 (bad 3) = .agg [ub false, .l [], .l [], ui 3] from rfl] at hu
    have hl0 : cnt l2 = 0 := by omega
    clear el h0 hn e1 e2 f1 f2 f3 f4 f5 f6 f7 f8 g1 g2 g3 g4 g5 g6 g7 g8 hz h1 h2
    cbv; (repeat ((first | refine ln fun _ _ _ => ?_ | refine tt ?_ | refine ff ?_ | refine wr fun _ _ => ?_ | refine wu fun _ _ => ?_ | refine rp fun _ _ _ => ?_ | refine cp fun _ => ?_ | with_reducible refine bq ?_ | refine cl ?_ | refine sd ?_ | intro _ _); cbv)); exact hu.symm
  · have hn : q.num ≠ 0 := fun h => hz (Rat.num_eq_zero.1 h)
    have hl0 : ¬ cnt l2 = 0 := by omega
    rw [if_neg hz] at hu
    have k3 := hC 69 make6R (by simp) _ _ ⟨s2, b2, g2, by omega, rfl, rfl⟩
    have e3 : Z s2 b2 = if q.num < 0 then -(q.den : Int) else (q.den : Int) := by
      unfold Z
      rw [g6, g8]
      by_cases h : q.num < 0 <;> simp [h]
    rw [e3] at k3
    obtain ⟨s3, l3, k3, i1, i2⟩ := tI k3
    have ea : (if q.num < 0 then -(q.den : Int) else (q.den : Int)).natAbs = q.den := by split <;> omega
    rw [ea] at i2
    have hq2 := fits_len hq
    have k4 := hC 68 timesR (by simp) _ _ ⟨p', s3, l3, l2, hp', i2 ▸ N_limbs _, g1, by rw [i2, cnt_N]; omega, by omega, by omega, rfl, rfl⟩
    rw [← ep, show Z s3 l3 = (if q.num < 0 then -(q.den : Int) else (q.den : Int)) by rw [i1, i2]; have := Z_I (if q.num < 0 then -(q.den : Int) else (q.den : Int)); rw [I_1, I_2, ea] at this; exact this, g7, show mkRat (p'.num * (if q.num < 0 then -(q.den : Int) else (q.den : Int))) (p'.den * q.num.natAbs) = p' / q by
      rw [← div_mk p' q hn]
      congr 1
      split
      · rw [Int.mul_neg]
      · rfl] at k4
    have k5 := hC 67 limitR (by simp) _ _ ⟨p' / q, rfl, rfl⟩
    obtain ⟨s6, l6, b6, e6, hu', i6⟩ := u76_parts (lim (p' / q))
    rw [hu'] at k5 hu
    obtain ⟨s5, l5, b5, k4, i5⟩ := tR k4
    rw [← i5] at k5
    clear hu' i5 i6 el h0 hn e1 e2 f1 f2 f3 f4 f5 f6 f7 f8 g1 g2 g3 g4 g5 g6 g7 g8 hz h1 h2 e3 i1 i2 ea hq2 ep hp hp' hq
    cbv; (repeat ((first | refine ln fun _ _ _ => ?_ | refine tt ?_ | refine ff ?_ | refine wr fun _ _ => ?_ | refine wu fun _ _ => ?_ | refine rp fun _ _ _ => ?_ | refine cp fun _ => ?_ | with_reducible refine bq ?_ | refine cl ?_ | refine sd ?_ | intro _ _); cbv)); exact hu.symm⟩
def whole7R (us : List U) (u : U) : Prop := ∃ v : Int, -9223372036854775808 ≤ v ∧ v ≤ 9223372036854775807 ∧ us = [ui v] ∧ u = uR (ratOf (v : Rat))
theorem whole7_ok : SoundF Tryz.prog 43 whole7R := sound [(70, of6R)] (orc_cons of6_ok orc_nil) Tryz.func43 (by kernel_rfl) (by kernel_rfl) fun us u hR => ⟨0, fun C E hC => by
  obtain ⟨v, h0, h1, rfl, hu⟩ := hR
  obtain ⟨s, l, k1, e1, e2⟩ := tI (hC 70 of6R (by simp) _ _ ⟨v, h0, h1, rfl, rfl⟩)
  rw [ratOf_int, N_one] at hu
  cbv; (repeat ((first | refine ln fun _ _ _ => ?_ | refine tt ?_ | refine ff ?_ | refine wr fun _ _ => ?_ | refine wu fun _ _ => ?_ | refine rp fun _ _ _ => ?_ | refine cp fun _ => ?_ | with_reducible refine bq ?_ | refine cl ?_ | refine sd ?_ | intro _ _); cbv)); rw [hu, e1, e2]; rfl⟩
def byR (us : List U) (u : U) : Prop := ∃ a b : Int, -9223372036854775808 ≤ a ∧ a ≤ 9223372036854775807 ∧ 0 < b ∧ b ≤ 9223372036854775807 ∧ fits ((a : Rat) / (b : Rat)) = true ∧ us = [ui a, ui b] ∧ u = uR (ratOf ((a : Rat) / (b : Rat)))
theorem by_ok : SoundF Tryz.prog 24 byR := sound [(43, whole7R), (42, div7R)] (orc_cons whole7_ok (orc_cons div7_ok orc_nil)) Tryz.func24 (by kernel_rfl) (by kernel_rfl) fun us u hR => ⟨0, fun C E hC => by
  obtain ⟨a, b, h0, h1, h2, h3, hf, rfl, hu⟩ := hR
  have k1 := hC 43 whole7R (by simp) _ _ ⟨a, h0, h1, rfl, rfl⟩
  have k2 := hC 43 whole7R (by simp) _ _ ⟨b, by omega, h3, rfl, rfl⟩
  have fa : fits (a : Rat) = true := fits_int a (by omega)
  have fb : fits (b : Rat) = true := fits_int b (by omega)
  have hb : (b : Rat) ≠ 0 := by have : b ≠ 0 := by omega
                                exact_mod_cast this
  have k3 := hC 42 div7R (by simp) _ _ ⟨ratOf (a : Rat), ratOf (b : Rat), (LR_ratOf fa).wide, (LR_ratOf fb).wide, rfl, rfl⟩
  rw [divS_fits fa fb hb hf] at k3
  obtain ⟨s1, l1, b1, k1, i1⟩ := tR k1
  obtain ⟨s2, l2, b2, k2, i2⟩ := tR k2
  rw [← i1, ← i2] at k3
  rcases i3 : ratOf ((a : Rat) / (b : Rat)) with ⟨s3, l3, b3⟩
  rw [i3] at k3 hu
  clear i1 i2 i3 hf fa fb hb
  cbv; (repeat ((first | refine ln fun _ _ _ => ?_ | refine tt ?_ | refine ff ?_ | refine wr fun _ _ => ?_ | refine wu fun _ _ => ?_ | refine rp fun _ _ _ => ?_ | refine cp fun _ => ?_ | with_reducible refine bq ?_ | refine cl ?_ | refine sd ?_ | intro _ _); cbv)); exact hu.symm⟩
theorem add1R {a b : List Int} (ha : Limbs a) (hb : Limbs b) (h1 : cnt a ≤ 1000000) (h2 : cnt b ≤ 1000000) : steelyardref01_Add.R [.l a, .l b] (.l (N (V a + V b))) := by obtain ⟨k, hk⟩ := (add1_tells ha hb (by unfold cnt at h1; omega) (by unfold cnt at h2; omega)).rounds; exact ⟨k, _, _, _, rfl, hk, rfl⟩
theorem sub1R {a b : List Int} (ha : Limbs a) (hb : Limbs b) (h1 : cnt a ≤ 1000000) (hle : V b ≤ V a) : steelyardref01_Sub.R [.l a, .l b] (.l (N (V a - V b))) := by obtain ⟨k, hk⟩ := (sub1_tells ha hb (by unfold cnt at h1; omega) hle).rounds; exact ⟨k, _, _, _, rfl, hk, rfl⟩
theorem cmp1R {a b : List Int} (ha : Limbs a) (hb : Limbs b) (h1 : cnt a ≤ 1000000) (h2 : cnt b ≤ 1000000) : steelyardref01_Cmp.R [.l a, .l b] (ui (cmpN (V a) (V b))) := by obtain ⟨k, hk⟩ := (cmp1_tells ha hb (by unfold cnt at h1; omega) (by unfold cnt at h2; omega)).rounds; exact ⟨k, _, _, _, rfl, hk, rfl⟩
def neg6R (us : List U) (u : U) : Prop := ∃ s l, Limbs l ∧ cnt l ≤ 1000000 ∧ us = [.agg [ub s, .l l]] ∧ u = uI (-Z s l)
theorem neg6_ok : SoundF Tryz.prog 80 neg6R := sound [(69, make6R)] (orc_cons make6_ok orc_nil) Tryz.func80 (by kernel_rfl) (by kernel_rfl) fun us u hR => ⟨0, fun C E hC => by
 obtain ⟨s, l, hl, hc, rfl, hu⟩ := hR
 obtain ⟨s1, l1, k1, e1, e2⟩ := tI (hC 69 make6R (by simp) _ _ ⟨!s, l, hl, hc, rfl, rfl⟩)
 have hz : Z (!s) l = -Z s l := by unfold Z; cases s <;> simp
 rw [hz] at e1 e2
 have hu' : u = .agg [ub s1, .l l1] := by rw [hu, e1, e2]; rfl
 clear hu e1 e2 hz
 cases s <;> (cbv; (repeat ((first | with_reducible refine ln fun _ _ _ => ?_ | refine tt ?_ | refine ff ?_ | with_reducible refine wr fun _ _ => ?_ | refine rp fun _ _ _ => ?_ | with_reducible refine bq ?_ | refine cl ?_ | refine sd ?_); cbv)); exact hu'.symm)⟩
def add6R (us : List U) (u : U) : Prop := ∃ s1 l1 s2 l2, Limbs l1 ∧ Limbs l2 ∧ cnt l1 ≤ 100000 ∧ cnt l2 ≤ 100000 ∧ us = [.agg [ub s1, .l l1], .agg [ub s2, .l l2]] ∧ u = uI (Z s1 l1 + Z s2 l2)
theorem add6_ok : SoundF Tryz.prog 109 add6R := sound [(69, make6R), (116, trim6R), (117, steelyardref01_Add.R), (122, steelyardref01_Sub.R), (121, steelyardref01_Cmp.R)] (orc_cons make6_ok (orc_cons trim6_ok (orc_cons steelyardref01_Add.sound (orc_cons steelyardref01_Sub.sound (orc_cons steelyardref01_Cmp.sound orc_nil))))) Tryz.func109 (by kernel_rfl) (by kernel_rfl) fun us u hR => ⟨0, fun C E hC => by
 obtain ⟨s1, l1, s2, l2, h1, h2, c1, c2, rfl, hu⟩ := hR
 obtain ⟨t1, m1, k1, e1, f1⟩ := tI (hC 116 trim6R (by simp) _ _ ⟨s1, l1, h1, by omega, rfl, rfl⟩)
 obtain ⟨t2, m2, k2, e2, f2⟩ := tI (hC 116 trim6R (by simp) _ _ ⟨s2, l2, h2, by omega, rfl, rfl⟩)
 have b1 := lenV h1
 have b2 := lenV h2
 rw [Z_abs] at f1 f2
 rw [← Z_abs s1 l1] at f1 b1
 rw [← Z_abs s2 l2] at f2 b2
 generalize Z s1 l1 = x at *
 generalize Z s2 l2 = y at *
 have g1 : Limbs m1 := f1 ▸ N_limbs _
 have g2 : Limbs m2 := f2 ▸ N_limbs _
 have v1 : V m1 = x.natAbs := by rw [f1, V_N]
 have v2 : V m2 = y.natAbs := by rw [f2, V_N]
 have d1 : cnt m1 ≤ 100000 := by rw [f1, cnt_N]; omega
 have d2 : cnt m2 ≤ 100000 := by rw [f2, cnt_N]; omega
 have fin : ∀ (s : Bool) (n : Nat), Z s (N n) = x + y → len n ≤ len x.natAbs + len y.natAbs + 1 → ∃ s4 l4, C 69 [ub s, .l (N n)] (.agg [ub s4, .l l4]) ∧ u = .agg [ub s4, .l l4] := fun s n hz hn => by
  have hs := hC 69 make6R (by simp) _ _ ⟨s, N n, N_limbs _, by rw [cnt_N]; omega, rfl, rfl⟩
  rw [hz] at hs
  exact ⟨_, _, hs, hu⟩
 have L1 := len_add x.natAbs y.natAbs
 by_cases hc : t1 = t2
 ·have k3 := hC 117 steelyardref01_Add.R (by simp) _ _ (add1R g1 g2 (by omega) (by omega))
  rw [v1, v2] at k3
  obtain ⟨s4, l4, k4, hu'⟩ := fin t1 (x.natAbs + y.natAbs) (by unfold Z; rw [V_N, e1]; rw [e1, e2, decide_eq_decide] at hc; simp only [decide_eq_true_eq]; split <;> omega) (by omega)
  obtain ⟨l3, k3, e3⟩ := tN k3
  rw [← e3] at k4
  clear fin hu e3 e1 e2
  subst hc
  cases t1 <;> cbv <;> (repeat ((first | with_reducible refine ln fun _ _ _ => ?_ | refine tt ?_ | refine ff ?_ | with_reducible refine wr fun _ _ => ?_ | refine rp fun _ _ _ => ?_ | with_reducible refine bq ?_ | refine cl ?_ | refine sd ?_); cbv)) <;> exact hu'.symm
 ·have kc := hC 121 steelyardref01_Cmp.R (by simp) _ _ (cmp1R g1 g2 (by omega) (by omega))
  rw [v1, v2] at kc
  by_cases hlt : x.natAbs < y.natAbs
  ·have k5 := hC 122 steelyardref01_Sub.R (by simp) _ _ (sub1R g2 g1 (by omega) (by omega))
   rw [v1, v2] at k5
   rw [show cmpN x.natAbs y.natAbs = -1 by unfold cmpN; exact if_pos hlt] at kc
   obtain ⟨s4, l4, k4, hu'⟩ := fin t2 (y.natAbs - x.natAbs) (by unfold Z; rw [V_N, e2]; rw [e1, e2, decide_eq_decide] at hc; simp only [decide_eq_true_eq]; split <;> omega) (by have := len_mono (a := y.natAbs - x.natAbs) (b := y.natAbs) (by omega); omega)
   generalize N (y.natAbs - x.natAbs) = l3 at *
   clear fin hu e1 e2
   cases t1 <;> cases t2 <;> first | exact absurd rfl hc | (cbv; (repeat ((first | with_reducible refine ln fun _ _ _ => ?_ | refine tt ?_ | refine ff ?_ | with_reducible refine wr fun _ _ => ?_ | refine rp fun _ _ _ => ?_ | with_reducible refine bq ?_ | refine cl ?_ | refine sd ?_); cbv)); exact hu'.symm)
  ·have k5 := hC 122 steelyardref01_Sub.R (by simp) _ _ (sub1R g1 g2 (by omega) (by omega))
   rw [v1, v2] at k5
   obtain ⟨cv, kc, hcv⟩ : ∃ cv, C 121 [.l m1, .l m2] (ui cv) ∧ 0 ≤ cv := ⟨_, kc, by unfold cmpN; rw [if_neg hlt]; split <;> omega⟩
   obtain ⟨s4, l4, k4, hu'⟩ := fin t1 (x.natAbs - y.natAbs) (by unfold Z; rw [V_N, e1]; rw [e1, e2, decide_eq_decide] at hc; simp only [decide_eq_true_eq]; split <;> omega) (by have := len_mono (a := x.natAbs - y.natAbs) (b := x.natAbs) (by omega); omega)
   generalize N (x.natAbs - y.natAbs) = l3 at *
   clear fin hu e1 e2
   cases t1 <;> cases t2 <;> first | exact absurd rfl hc | (cbv; (repeat ((first | with_reducible refine ln fun _ _ _ => ?_ | refine tt ?_ | refine ff ?_ | with_reducible refine wr fun _ _ => ?_ | refine rp fun _ _ _ => ?_ | with_reducible refine bq ?_ | refine cl ?_ | refine sd ?_); cbv)); exact hu'.symm)⟩
def posR (us : List U) (u : U) : Prop := ∃ l, Limbs l ∧ cnt l ≤ 1000000 ∧ us = [.l l] ∧ u = uI (V l : Int)
theorem pos_ok : SoundF Tryz.prog 110 posR := sound [(69, make6R)] (orc_cons make6_ok orc_nil) Tryz.func110 (by kernel_rfl) (by kernel_rfl) fun us u hR => ⟨0, fun C E hC => by
 obtain ⟨l, hl, hc, rfl, hu⟩ := hR
 obtain ⟨s1, l1, k1, e1, e2⟩ := tI (hC 69 make6R (by simp) _ _ ⟨false, l, hl, hc, rfl, rfl⟩)
 have hz : Z false l = (V l : Int) := rfl
 rw [hz] at e1 e2
 have hu' : u = .agg [ub s1, .l l1] := by rw [hu, e1, e2]; rfl
 clear hu e1 e2 hz
 cbv; (repeat ((first | with_reducible refine ln fun _ _ _ => ?_ | refine tt ?_ | refine ff ?_ | with_reducible refine wr fun _ _ => ?_ | refine rp fun _ _ _ => ?_ | with_reducible refine bq ?_ | refine cl ?_ | refine sd ?_); cbv)); exact hu'.symm⟩
def plusR (us : List U) (u : U) : Prop := ∃ p q : Rat, fits p = true ∧ fits q = true ∧ us = [uR (ratOf p), uR (ratOf q)] ∧ u = uR (ratOf (p + q))
theorem plus_ok : SoundF Tryz.prog 79 plusR := sound [(110, posR), (98, mul6R), (109, add6R), (99, steelyardref02_Of.R), (97, wideR)] (orc_cons pos_ok (orc_cons mul6_ok (orc_cons add6_ok (orc_cons steelyardref02_Of.sound (orc_cons wide_ok orc_nil))))) Tryz.func79 (by kernel_rfl) (by kernel_rfl) fun us u hR => ⟨0, fun C E hC => by
 obtain ⟨p, q, hp, hq, rfl, hu⟩ := hR
 obtain ⟨s1, l1, b1, ep, f1, f2, f3, f4, f5, f6, f7, f8⟩ := rat_parts hp
 obtain ⟨s2, l2, b2, eq, g1, g2, g3, g4, g5, g6, g7, g8⟩ := rat_parts hq
 rw [ep, eq]
 unfold uR
 dsimp only
 have q1 := fits_len hp
 have q2 := fits_len hq
 obtain ⟨s3, l3, k3, i3, i4⟩ := tI (hC 110 posR (by simp) _ _ ⟨b2, g2, by omega, rfl, rfl⟩)
 obtain ⟨s4, l4, k4, i5, i6⟩ := tI (hC 110 posR (by simp) _ _ ⟨b1, f2, by omega, rfl, rfl⟩)
 rw [g6, Int.natAbs_natCast] at i4
 rw [f6, Int.natAbs_natCast] at i6
 have z3 : Z s3 l3 = q.den := by rw [i3, i4, g6]; have := Z_I (q.den : Int); rw [I_1, I_2, Int.natAbs_natCast] at this; exact this
 have z4 : Z s4 l4 = p.den := by rw [i5, i6, f6]; have := Z_I (p.den : Int); rw [I_1, I_2, Int.natAbs_natCast] at this; exact this
 have k5 := hC 98 mul6R (by simp) _ _ ⟨s1, l1, s3, l3, f1, i4 ▸ N_limbs _, by omega, by rw [i4, cnt_N]; omega, rfl, rfl⟩
 have k6 := hC 98 mul6R (by simp) _ _ ⟨s2, l2, s4, l4, g1, i6 ▸ N_limbs _, by omega, by rw [i6, cnt_N]; omega, rfl, rfl⟩
 rw [f5, z3] at k5
 rw [g5, z4] at k6
 have m1 := len_mulZ p.num q.den
 have m2 := len_mulZ q.num p.den
 have m3 := len_mul p.den q.den
 have m4 := len_addZ (p.num * q.den) (q.num * p.den)
 rw [Int.natAbs_natCast] at m1 m2
 obtain ⟨s5, l5, k5, i7, i8⟩ := tI k5
 obtain ⟨s6, l6, k6, j7, j8⟩ := tI k6
 have z5 : Z s5 l5 = p.num * q.den := by rw [i7, i8]; exact Z_I _
 have z6 : Z s6 l6 = q.num * p.den := by rw [j7, j8]; exact Z_I _
 obtain ⟨s7, l7, k7, i9, i10⟩ := tI (hC 109 add6R (by simp) _ _ ⟨s5, l5, s6, l6, i8 ▸ N_limbs _, j8 ▸ N_limbs _, by rw [i8, cnt_N]; omega, by rw [j8, cnt_N]; omega, rfl, rfl⟩)
 rw [z5, z6] at i9 i10
 obtain ⟨l8, k8, i11⟩ := tN (hC 99 steelyardref02_Of.R (by simp) _ _ (of2R f2 g2 (by omega) (by omega)))
 rw [f6, g6] at i11
 obtain ⟨s9, l9, b9, k9, i12⟩ := tR (hC 97 wideR (by simp) _ _ ⟨s7, l7, l8, i10 ▸ N_limbs _, i11 ▸ N_limbs _, by rw [i10, cnt_N]; omega, by rw [i11, cnt_N]; omega, by rw [i11, V_N]; exact Nat.mul_ne_zero p.den_nz q.den_nz, rfl, rfl⟩)
 rw [show Z s7 l7 = p.num * q.den + q.num * p.den by rw [i9, i10]; exact Z_I _, show V l8 = p.den * q.den by rw [i11, V_N], ← Rat.add_def'] at i12
 rw [← i12] at hu
 clear ep eq i3 i4 i5 i6 i7 i8 i9 i10 i11 i12 z3 z4 z5 z6 m1 m2 m3 m4 q1 q2 f1 f2 f3 f4 f5 f6 f7 f8 g1 g2 g3 g4 g5 g6 g7 g8 hp hq j7 j8
 cbv; (repeat ((first | with_reducible refine ln fun _ _ _ => ?_ | refine tt ?_ | refine ff ?_ | with_reducible refine wr fun _ _ => ?_ | refine rp fun _ _ _ => ?_ | with_reducible refine bq ?_ | refine cl ?_ | refine sd ?_); cbv)); exact hu.symm⟩
def neg7R (us : List U) (u : U) : Prop := ∃ a : R3, LB a ∧ us = [uR a] ∧ u = uR (negS a)
theorem neg7_ok : SoundF Tryz.prog 53 neg7R := sound [(44, goodR), (80, neg6R), (81, steelyardref01_Trim.R)] (orc_cons good7_ok (orc_cons neg6_ok (orc_cons steelyardref01_Trim.sound orc_nil))) Tryz.func53 (by kernel_rfl) (by kernel_rfl) fun us u hR => ⟨0, fun C E hC => by
 obtain ⟨⟨s, l, b⟩, ha, rfl, hu⟩ := hR
 have k1 := hC 44 goodR (by simp) _ _ ⟨_, ha, rfl, rfl⟩
 unfold negS at hu
 by_cases h : goodB (s, l, b) = true
 ·rw [if_pos h] at hu
  rw [h] at k1
  obtain ⟨p, hp, e1, f1, f2, f3, f4, f5, f6, f7, f8⟩ := good_parts h
  rw [e1] at hu
  obtain ⟨s1, l1, k2, i1, i2⟩ := tI (hC 80 neg6R (by simp) _ _ ⟨s, l, f1, by omega, rfl, rfl⟩)
  obtain ⟨l2, k3, i3⟩ := tN (hC 81 steelyardref01_Trim.R (by simp) _ _ (trim1R f2 (by omega)))
  rw [f5] at i1 i2
  rw [f6] at i3
  have hu' : u = .agg [ub s1, .l l1, .l l2] := by
   rw [hu, i1, i2, i3]
   unfold uR ratOf
   rw [Rat.neg_num, Rat.neg_den]
  clear hu i1 i2 i3 h e1 f1 f2 f3 f4 f5 f6 f7 f8 ha hp
  cbv; (repeat ((first | with_reducible refine ln fun _ _ _ => ?_ | refine tt ?_ | refine ff ?_ | with_reducible refine wr fun _ _ => ?_ | refine rp fun _ _ _ => ?_ | with_reducible refine bq ?_ | refine cl ?_ | refine sd ?_); cbv)); exact hu'.symm
 ·rw [if_neg h] at hu
  rw [Bool.eq_false_iff.2 h] at k1
  clear h ha
  cbv; (repeat ((first | with_reducible refine ln fun _ _ _ => ?_ | refine tt ?_ | refine ff ?_ | with_reducible refine wr fun _ _ => ?_ | refine rp fun _ _ _ => ?_ | with_reducible refine bq ?_ | refine cl ?_ | refine sd ?_); cbv)); exact hu.symm⟩
def got2R (f : R3 → R3 → R4) (us : List U) (u : U) : Prop := ∃ a b : R3, LB a ∧ LB b ∧ us = [uR a, uR b] ∧ u = u76 (f a b)
theorem add7_ok : SoundF Tryz.prog 50 (got2R addS) := sound [(44, goodR), (79, plusR), (67, limitR)] (orc_cons good7_ok (orc_cons plus_ok (orc_cons limit_ok orc_nil))) Tryz.func50 (by kernel_rfl) (by kernel_rfl) fun us u hR => ⟨0, fun C E hC => by
 obtain ⟨⟨s1, l1, b1⟩, ⟨s2, l2, b2⟩, ha, hb, rfl, hu⟩ := hR
 have k1 := hC 44 goodR (by simp) _ _ ⟨_, ha, rfl, rfl⟩
 have k2 := hC 44 goodR (by simp) _ _ ⟨_, hb, rfl, rfl⟩
 unfold addS at hu
 by_cases h1 : goodB (s1, l1, b1) = true
 case neg =>
  rw [Bool.eq_false_iff.2 h1] at k1 hu
  rw [Bool.false_and, if_neg (by simp), show u76 (bad 1) = .agg [ub false, .l [], .l [], ui 1] from rfl] at hu
  clear ha hb
  cbv; (repeat ((first | with_reducible refine ln fun _ _ _ => ?_ | refine tt ?_ | refine ff ?_ | with_reducible refine wr fun _ _ => ?_ | refine rp fun _ _ _ => ?_ | with_reducible refine bq ?_ | refine cl ?_ | refine sd ?_); cbv)); exact hu.symm
 by_cases h2 : goodB (s2, l2, b2) = true
 case neg =>
  rw [h1] at k1
  rw [Bool.eq_false_iff.2 h2] at k2 hu
  rw [Bool.and_false, if_neg (by simp), show u76 (bad 1) = .agg [ub false, .l [], .l [], ui 1] from rfl] at hu
  clear ha hb
  cbv; (repeat ((first | with_reducible refine ln fun _ _ _ => ?_ | refine tt ?_ | refine ff ?_ | with_reducible refine wr fun _ _ => ?_ | refine rp fun _ _ _ => ?_ | with_reducible refine bq ?_ | refine cl ?_ | refine sd ?_); cbv)); exact hu.symm
 rw [h1] at k1 hu
 rw [h2] at k2 hu
 rw [Bool.true_and, if_pos rfl] at hu
 obtain ⟨p, hp, ep⟩ := good_iff.1 h1
 obtain ⟨q, hq, eq⟩ := good_iff.1 h2
 rw [ep, eq, qOf_ratOf, qOf_ratOf] at hu
 have k3 := hC 79 plusR (by simp) _ _ ⟨p, q, hp, hq, rfl, rfl⟩
 rw [← ep, ← eq] at k3
 have k9 := hC 67 limitR (by simp) _ _ ⟨p + q, rfl, rfl⟩
 obtain ⟨s6, l6, b6, e6, hu', i6⟩ := u76_parts (lim (p + q))
 rw [hu'] at k9 hu
 obtain ⟨s5, l5, b5, k3, i5⟩ := tR k3
 rw [← i5] at k9
 clear ep eq hp hq i5 i6 h1 h2 hu' ha hb
 cbv; (repeat ((first | with_reducible refine ln fun _ _ _ => ?_ | refine tt ?_ | refine ff ?_ | with_reducible refine wr fun _ _ => ?_ | refine rp fun _ _ _ => ?_ | with_reducible refine bq ?_ | refine cl ?_ | refine sd ?_); cbv)); exact hu.symm⟩
theorem sub7_ok : SoundF Tryz.prog 51 (got2R subS) := sound [(44, goodR), (53, neg7R), (79, plusR), (67, limitR)] (orc_cons good7_ok (orc_cons neg7_ok (orc_cons plus_ok (orc_cons limit_ok orc_nil)))) Tryz.func51 (by kernel_rfl) (by kernel_rfl) fun us u hR => ⟨0, fun C E hC => by
 obtain ⟨⟨s1, l1, b1⟩, ⟨s2, l2, b2⟩, ha, hb, rfl, hu⟩ := hR
 have k1 := hC 44 goodR (by simp) _ _ ⟨_, ha, rfl, rfl⟩
 have k2 := hC 44 goodR (by simp) _ _ ⟨_, hb, rfl, rfl⟩
 unfold subS at hu
 by_cases h1 : goodB (s1, l1, b1) = true
 case neg =>
  rw [Bool.eq_false_iff.2 h1] at k1 hu
  rw [Bool.false_and, if_neg (by simp), show u76 (bad 1) = .agg [ub false, .l [], .l [], ui 1] from rfl] at hu
  clear ha hb
  cbv; (repeat ((first | with_reducible refine ln fun _ _ _ => ?_ | refine tt ?_ | refine ff ?_ | with_reducible refine wr fun _ _ => ?_ | refine rp fun _ _ _ => ?_ | with_reducible refine bq ?_ | refine cl ?_ | refine sd ?_); cbv)); exact hu.symm
 by_cases h2 : goodB (s2, l2, b2) = true
 case neg =>
  rw [h1] at k1
  rw [Bool.eq_false_iff.2 h2] at k2 hu
  rw [Bool.and_false, if_neg (by simp), show u76 (bad 1) = .agg [ub false, .l [], .l [], ui 1] from rfl] at hu
  clear ha hb
  cbv; (repeat ((first | with_reducible refine ln fun _ _ _ => ?_ | refine tt ?_ | refine ff ?_ | with_reducible refine wr fun _ _ => ?_ | refine rp fun _ _ _ => ?_ | with_reducible refine bq ?_ | refine cl ?_ | refine sd ?_); cbv)); exact hu.symm
 rw [h1] at k1 hu
 rw [h2] at k2 hu
 rw [Bool.true_and, if_pos rfl] at hu
 obtain ⟨p, hp, ep⟩ := good_iff.1 h1
 obtain ⟨q, hq, eq⟩ := good_iff.1 h2
 rw [ep, eq, qOf_ratOf, qOf_ratOf] at hu
 have k0 := hC 53 neg7R (by simp) _ _ ⟨_, hb, rfl, rfl⟩
 have k3 := hC 79 plusR (by simp) _ _ ⟨p, -q, hp, (fits_neg q).trans hq, rfl, rfl⟩
 rw [show negS (s2, l2, b2) = ratOf (-q) by unfold negS; rw [if_pos h2, eq, qOf_ratOf]] at k0
 obtain ⟨s8, l8, b8, k0, i8⟩ := tR k0
 rw [← ep, ← i8, ← Rat.sub_eq_add_neg] at k3
 clear i8
 have k9 := hC 67 limitR (by simp) _ _ ⟨p - q, rfl, rfl⟩
 obtain ⟨s6, l6, b6, e6, hu', i6⟩ := u76_parts (lim (p - q))
 rw [hu'] at k9 hu
 obtain ⟨s5, l5, b5, k3, i5⟩ := tR k3
 rw [← i5] at k9
 clear ep eq hp hq i5 i6 h1 h2 hu' ha hb
 cbv; (repeat ((first | with_reducible refine ln fun _ _ _ => ?_ | refine tt ?_ | refine ff ?_ | with_reducible refine wr fun _ _ => ?_ | refine rp fun _ _ _ => ?_ | with_reducible refine bq ?_ | refine cl ?_ | refine sd ?_); cbv)); exact hu.symm⟩
theorem mul7_ok : SoundF Tryz.prog 52 (got2R mulS) := sound [(44, goodR), (68, timesR), (67, limitR)] (orc_cons good7_ok (orc_cons times_ok (orc_cons limit_ok orc_nil))) Tryz.func52 (by kernel_rfl) (by kernel_rfl) fun us u hR => ⟨0, fun C E hC => by
 obtain ⟨⟨s1, l1, b1⟩, ⟨s2, l2, b2⟩, ha, hb, rfl, hu⟩ := hR
 have k1 := hC 44 goodR (by simp) _ _ ⟨_, ha, rfl, rfl⟩
 have k2 := hC 44 goodR (by simp) _ _ ⟨_, hb, rfl, rfl⟩
 unfold mulS at hu
 by_cases h1 : goodB (s1, l1, b1) = true
 case neg =>
  rw [Bool.eq_false_iff.2 h1] at k1 hu
  rw [Bool.false_and, if_neg (by simp), show u76 (bad 1) = .agg [ub false, .l [], .l [], ui 1] from rfl] at hu
  clear ha hb
  cbv; (repeat ((first | with_reducible refine ln fun _ _ _ => ?_ | refine tt ?_ | refine ff ?_ | with_reducible refine wr fun _ _ => ?_ | refine rp fun _ _ _ => ?_ | with_reducible refine bq ?_ | refine cl ?_ | refine sd ?_); cbv)); exact hu.symm
 by_cases h2 : goodB (s2, l2, b2) = true
 case neg =>
  rw [h1] at k1
  rw [Bool.eq_false_iff.2 h2] at k2 hu
  rw [Bool.and_false, if_neg (by simp), show u76 (bad 1) = .agg [ub false, .l [], .l [], ui 1] from rfl] at hu
  clear ha hb
  cbv; (repeat ((first | with_reducible refine ln fun _ _ _ => ?_ | refine tt ?_ | refine ff ?_ | with_reducible refine wr fun _ _ => ?_ | refine rp fun _ _ _ => ?_ | with_reducible refine bq ?_ | refine cl ?_ | refine sd ?_); cbv)); exact hu.symm
 rw [h1] at k1 hu
 rw [h2] at k2 hu
 rw [Bool.true_and, if_pos rfl] at hu
 obtain ⟨p, hp, ep⟩ := good_iff.1 h1
 obtain ⟨q, hq, eq⟩ := good_iff.1 h2
 rw [ep, eq, qOf_ratOf, qOf_ratOf] at hu
 obtain ⟨q', hq', eq', g1, g2, g3, g4, g5, g6, _⟩ := good_parts h2
 have k3 := hC 68 timesR (by simp) _ _ ⟨p, s2, l2, b2, hp, g1, g2, by omega, by omega, by rw [g6]; exact q'.den_nz, rfl, rfl⟩
 rw [show q' = q by rw [← eq', eq, qOf_ratOf]] at g5 g6
 rw [g5, g6, ← Rat.mul_def', ← ep] at k3
 clear g1 g2 g3 g4 g5 g6 eq' hq'
 have k9 := hC 67 limitR (by simp) _ _ ⟨p * q, rfl, rfl⟩
 obtain ⟨s6, l6, b6, e6, hu', i6⟩ := u76_parts (lim (p * q))
 rw [hu'] at k9 hu
 obtain ⟨s5, l5, b5, k3, i5⟩ := tR k3
 rw [← i5] at k9
 clear ep eq hp hq i5 i6 h1 h2 hu' ha hb
 cbv; (repeat ((first | with_reducible refine ln fun _ _ _ => ?_ | refine tt ?_ | refine ff ?_ | with_reducible refine wr fun _ _ => ?_ | refine rp fun _ _ _ => ?_ | with_reducible refine bq ?_ | refine cl ?_ | refine sd ?_); cbv)); exact hu.symm⟩
def wide8R (us : List U) (u : U) : Prop := ∃ (p : Rat) (e : Nat) (n : Int), fits p = true ∧ n = e ∧ 0 < n ∧ n ≤ 128 ∧ us = [uR (ratOf p), ui n] ∧ u = uR (ratOf (p ^ e))
theorem wide8_ok : SoundF Tryz.prog 82 wide8R := sound [(69, make6R), (99, steelyardref02_Of.R)] (orc_cons make6_ok (orc_cons steelyardref02_Of.sound orc_nil)) Tryz.func82 (by kernel_rfl) (by kernel_rfl) fun us u hR => by
 obtain ⟨p, e, n, hp, hn, n0, n1, rfl, hu⟩ := hR
 obtain ⟨r, hr⟩ : ∃ r, r = 200 := ⟨_, rfl⟩
 refine ⟨r, fun C E hC => ?_⟩
 have sg := pow_sign p e (by omega) (by omega)
 rw [show Int.tmod (e : Int) 2 = Int.tmod n 2 by rw [hn]] at sg
 obtain ⟨s, l, b, ep, g1, g2, g3, g4, g5, g6, g7, g8⟩ := rat_parts hp
 rw [ep] at sg ⊢
 dsimp only at sg
 have q1 := fits_len hp
 have kM := hC 99 steelyardref02_Of.R (by simp)
 have kA : ∀ i : Nat, i ≤ 128 → C 99 [.l (N (p.num.natAbs ^ i)), .l l] (.l (N (p.num.natAbs ^ (i + 1)))) := fun i hi => by
  have L := len_pow64 p.num.natAbs i q1.1 hi
  have := kM _ _ (of2R (N_limbs (p.num.natAbs ^ i)) g1 (by rw [cnt_N]; omega) (by omega))
  rwa [V_N, g7, ← Nat.pow_succ] at this
 have kB : ∀ i : Nat, i ≤ 128 → C 99 [.l (N (p.den ^ i)), .l b] (.l (N (p.den ^ (i + 1)))) := fun i hi => by
  have L := len_pow64 p.den i q1.2 hi
  have := kM _ _ (of2R (N_limbs (p.den ^ i)) g2 (by rw [cnt_N]; omega) (by omega))
  rwa [V_N, g6, ← Nat.pow_succ] at this
 have L1 := len_pow64 p.num.natAbs e q1.1 (by omega)
 have kS := hC 69 make6R (by simp) _ _ ⟨s && (Int.tmod n 2 == 1), N (p.num.natAbs ^ e), N_limbs _, by rw [cnt_N]; omega, rfl, rfl⟩
 rw [sg] at kS
 obtain ⟨s9, l9, kS, i1, i2⟩ := tI kS
 have hu' : u = .agg [ub s9, .l l9, .l (N (p.den ^ e))] := by
  rw [hu, i1, i2]
  unfold uR ratOf
  rw [Rat.num_pow, Rat.den_pow]
 clear kM hC sg ep g1 g2 g3 g4 g5 g6 g7 g8 q1 L1 hu i1 i2
 unfold uR
 dsimp only
 obtain ⟨fA, hfA⟩ : ∃ f : Nat → List Int, f = fun i => N (p.num.natAbs ^ i) := ⟨_, rfl⟩
 obtain ⟨fB, hfB⟩ : ∃ f : Nat → List Int, f = fun i => N (p.den ^ i) := ⟨_, rfl⟩
 have hne : n.toNat = e := by omega
 have kA : ∀ z : Int, 0 ≤ z → z ≤ 128 → C 99 [.l (fA z.toNat), .l l] (.l (fA (z + 1).toNat)) := fun z z0 z1 => by rw [hfA, show (z + 1).toNat = z.toNat + 1 by omega]; exact kA z.toNat (by omega)
 have kB : ∀ z : Int, 0 ≤ z → z ≤ 128 → C 99 [.l (fB z.toNat), .l b] (.l (fB (z + 1).toNat)) := fun z z0 z1 => by rw [hfB, show (z + 1).toNat = z.toNat + 1 by omega]; exact kB z.toNat (by omega)
 have kS : C 69 [ub (s && (Int.tmod n 2 == 1)), .l (fA n.toNat)] (.agg [ub s9, .l l9]) := by rw [hfA, hne]; exact kS
 have hu' : u = .agg [ub s9, .l l9, .l (fB n.toNat)] := by rw [hfB, hne]; exact hu'
 have a0 : fA 0 = [1] := by rw [hfA]; exact N_one
 have b0 : fB 0 = [1] := by rw [hfB]; exact N_one
 clear hfA hfB hne hn hp
 cbv
 (repeat ((first | with_reducible refine ln fun _ _ _ => ?_ | refine tt ?_ | refine ff ?_ | with_reducible refine wr fun _ _ => ?_ | refine rp fun _ _ _ => ?_ | with_reducible refine bq ?_ | refine cl ?_ | refine sd ?_); cbv))
 refine lets [1, 2, 4, 5, 6, 7] ?_
 cbv
 refine loop_inv (fun j a h => ∃ (z : Int) (x y : List Int), 0 ≤ z ∧ z ≤ n ∧ j = (n - z).toNat ∧ x = fA z.toNat ∧ y = fB z.toNat ∧ a = [.lost, ui n, .ptr 0 0, .lost, .ptr 1 0, .l x, .l y, ui z, .lost, .lost, .lost, .lost, .lost, .lost, .lost, .lost, .lost, .lost, .lost, .lost, .lost, .lost, .lost, .lost, .lost, .lost, .lost, .lost, .lost, .lost, .lost, .lost, .lost, .lost, .lost, .lost] ∧ h = [some (.cells [ub s, .l l, .l b]), some (.cells [ub false, .l [], .l []])]) ?_ r n.toNat _ _ (by omega) ⟨0, [1], [1], by omega, by omega, by omega, a0.symm, b0.symm, rfl, rfl⟩
 rintro j a h K ⟨z, x, y, z0, hi, hj, hx, hy, rfl, rfl⟩ hK
 rcases Decidable.em (z < n) with hlt | hlt
 ·have k1 := kA z z0 (by omega)
  have k2 := kB z z0 (by omega)
  rw [← hx] at k1
  rw [← hy] at k2
  obtain ⟨x2, k1, e1⟩ : ∃ x2, C 99 [.l x, .l l] (.l x2) ∧ x2 = fA (z + 1).toNat := ⟨_, k1, rfl⟩
  obtain ⟨y2, k2, e2⟩ : ∃ y2, C 99 [.l y, .l b] (.l y2) ∧ y2 = fB (z + 1).toNat := ⟨_, k2, rfl⟩
  clear kA kB kS hu'
  cbv
  (repeat ((first | with_reducible refine ln fun _ _ _ => ?_ | refine tt ?_ | refine ff ?_ | with_reducible refine wr fun _ _ => ?_ | refine rp fun _ _ _ => ?_ | with_reducible refine bq ?_ | refine cl ?_ | refine sd ?_); cbv))
  rename_i z' hz'
  refine lets [1, 2, 4, 5, 6, 7] ?_
  exact hK (n - (z + 1)).toNat _ _ (by omega) ⟨z + 1, x2, y2, by omega, by omega, rfl, e1, e2, by rw [hz']; rfl, rfl⟩
 ·have hzn : z = n := by omega
  rw [hzn] at hx hy
  rw [← hx] at kS
  rw [← hy] at hu'
  clear kA kB hK hx hy
  cases s
  ·cbv
   (repeat ((first | with_reducible refine ln fun _ _ _ => ?_ | refine tt ?_ | refine ff ?_ | with_reducible refine wr fun _ _ => ?_ | refine rp fun _ _ _ => ?_ | with_reducible refine bq ?_ | refine cl ?_ | refine sd ?_); cbv))
   exact hu'.symm
  ·rw [Bool.true_and] at kS
   rcases Decidable.em (Int.tmod n 2 = 1) with ht | ht
   ·rw [ht] at kS
    cbv
    (repeat ((first | refine ln fun _ _ _ => ?_ | refine tt ?_ | refine ff ?_ | refine wr fun _ _ => ?_ | refine rp fun _ _ _ => ?_ | with_reducible refine bq ?_ | refine cl ?_ | refine sd ?_ | intro _ _); cbv))
    exact hu'.symm
   ·rw [show (Int.tmod n 2 == 1) = false by simpa using ht] at kS
    cbv
    (repeat ((first | refine ln fun _ _ _ => ?_ | refine tt ?_ | refine ff ?_ | refine wr fun _ _ => ?_ | refine rp fun _ _ _ => ?_ | with_reducible refine bq ?_ | refine cl ?_ | refine sd ?_ | intro _ _); cbv))
    exact hu'.symm
def turned8R (us : List U) (u : U) : Prop := ∃ q : Rat, q ≠ 0 ∧ len q.den ≤ 100000 ∧ us = [uR (ratOf q)] ∧ u = uR (ratOf q⁻¹)
theorem ratOf_inv {q : Rat} (h : q ≠ 0) : ratOf q⁻¹ = (decide (q.num < 0), N q.den, N q.num.natAbs) := by
 have hz : q.num ≠ 0 := fun h2 => h (Rat.num_eq_zero.1 h2)
 obtain ⟨h1, h2⟩ := inv_parts q h
 unfold ratOf
 rw [h1, h2]
 obtain ⟨_, _, p3⟩ := mk_parts (if q.num < 0 then -(q.den : Int) else (q.den : Int)) q.num.natAbs (by omega)
 rw [← inv_mk q hz] at p3
 rw [p3]
 have := q.den_nz
 congr 1
 rw [decide_eq_decide]
 split <;> omega
theorem turned8_ok : SoundF Tryz.prog 83 turned8R := sound [(69, make6R)] (orc_cons make6_ok orc_nil) Tryz.func83 (by kernel_rfl) (by kernel_rfl) fun us u hR => ⟨0, fun C E hC => by
 obtain ⟨q, hq, hl, rfl, hu⟩ := hR
 have k1 := hC 69 make6R (by simp) _ _ ⟨decide (q.num < 0), N q.den, N_limbs _, by rw [cnt_N]; omega, rfl, rfl⟩
 obtain ⟨s1, l1, k1, e1, e2⟩ := tI k1
 rw [Z_abs, V_N] at e2
 have hz : (Z (decide (q.num < 0)) (N q.den)) = if q.num < 0 then -(q.den : Int) else (q.den : Int) := by unfold Z; rw [V_N]; simp
 rw [hz] at e1
 have hd := q.den_nz
 have hu' : u = .agg [ub s1, .l l1, .l (N q.num.natAbs)] := by
  rw [hu, ratOf_inv hq, e1, e2]
  unfold uR
  have : decide ((if q.num < 0 then -(q.den : Int) else (q.den : Int)) < 0) = decide (q.num < 0) := by
   rw [decide_eq_decide]
   split <;> omega
  rw [this]
 unfold uR ratOf
 dsimp only
 clear hu e1 e2 hz hd hq hl
 generalize decide (q.num < 0) = s at *
 generalize N q.num.natAbs = l at *
 generalize N q.den = b at *
 cbv; (repeat ((first | with_reducible refine ln fun _ _ _ => ?_ | refine tt ?_ | refine ff ?_ | with_reducible refine wr fun _ _ => ?_ | refine rp fun _ _ _ => ?_ | with_reducible refine bq ?_ | refine cl ?_ | refine sd ?_); cbv)); exact hu'.symm⟩
def of8R (us : List U) (u : U) : Prop := ∃ (a : R3) (n : Int), LB a ∧ -9223372036854775808 < n ∧ n ≤ 9223372036854775807 ∧ us = [uR a, ui n] ∧ u = u76 (powS a n)
theorem of8_ok : SoundF Tryz.prog 54 of8R := sound [(44, goodR), (43, whole7R), (82, wide8R), (83, turned8R), (67, limitR)] (orc_cons good7_ok (orc_cons whole7_ok (orc_cons wide8_ok (orc_cons turned8_ok (orc_cons limit_ok orc_nil))))) Tryz.func54 (by kernel_rfl) (by kernel_rfl) fun us u hR => ⟨0, fun C E hC => by
 obtain ⟨⟨s, l, b⟩, n, ha, h0, h1, rfl, hu⟩ := hR
 have k1 := hC 44 goodR (by simp) _ _ ⟨_, ha, rfl, rfl⟩
 unfold powS at hu
 clear ha
 by_cases hg : goodB (s, l, b) = true
 case neg =>
  rw [if_neg hg, show u76 (bad 1) = .agg [ub false, .l [], .l [], ui 1] from rfl] at hu
  rw [Bool.eq_false_iff.2 hg] at k1
  cbv; (repeat ((first | with_reducible refine ln fun _ _ _ => ?_ | refine tt ?_ | refine ff ?_ | with_reducible refine wr fun _ _ => ?_ | refine rp fun _ _ _ => ?_ | with_reducible refine bq ?_ | refine cl ?_ | refine sd ?_); cbv)); exact hu.symm
 rw [if_pos hg] at hu
 rw [hg] at k1
 obtain ⟨p, hp, ep⟩ := good_iff.1 hg
 have q1 := fits_len hp
 rw [ep, qOf_ratOf] at hu
 by_cases hw : -128 ≤ n ∧ n ≤ 128
 case neg =>
  rw [if_neg hw, show u76 (bad 2) = .agg [ub false, .l [], .l [], ui 2] from rfl] at hu
  clear ep
  cbv
  rcases Decidable.em (128 < n) with h2 | h2 <;> ((repeat ((first | with_reducible refine ln fun _ _ _ => ?_ | refine tt ?_ | refine ff ?_ | with_reducible refine wr fun _ _ => ?_ | refine rp fun _ _ _ => ?_ | with_reducible refine bq ?_ | refine cl ?_ | refine sd ?_); cbv)); exact hu.symm)
 rw [if_pos hw] at hu
 have kL := fun q => hC 67 limitR (by simp) _ _ ⟨q, rfl, rfl⟩
 by_cases hz : n = 0
 ·have k2 := hC 43 whole7R (by simp) _ _ ⟨1, by omega, by omega, rfl, rfl⟩
  obtain ⟨s2, l2, b2, k2, e2⟩ := tR k2
  have hu' : u = .agg [ub s2, .l l2, .l b2, ui 0] := by
   rw [hu, hz, if_neg (by omega), Rat.zpow_zero, lim_fits fits_one]
   have e3 : (s2, l2, b2) = ratOf 1 := e2
   injection e3 with e3 e4
   injection e4 with e4 e5
   rw [e3, e4, e5]
   rfl
  clear hu e2 ep kL
  cbv; (repeat ((first | with_reducible refine ln fun _ _ _ => ?_ | refine tt ?_ | refine ff ?_ | with_reducible refine wr fun _ _ => ?_ | refine rp fun _ _ _ => ?_ | with_reducible refine bq ?_ | refine cl ?_ | refine sd ?_); cbv)); exact hu'.symm
 by_cases hpos : 0 < n
 ·obtain ⟨e, he⟩ : ∃ e : Nat, n = e := ⟨n.toNat, by omega⟩
  rw [if_neg (by omega), he, Rat.zpow_natCast] at hu
  have k2 := hC 82 wide8R (by simp) _ _ ⟨p, e, n, hp, he, hpos, by omega, rfl, rfl⟩
  have k3 := kL (p ^ e)
  rw [← ep] at k2
  obtain ⟨s2, l2, b2, k2, e2⟩ := tR k2
  rw [← e2] at k3
  obtain ⟨s6, l6, b6, e6, hu', i6⟩ := u76_parts (lim (p ^ e))
  rw [hu'] at k3 hu
  clear hu' i6 e2 ep kL q1 he
  cbv; (repeat ((first | with_reducible refine ln fun _ _ _ => ?_ | refine tt ?_ | refine ff ?_ | with_reducible refine wr fun _ _ => ?_ | refine rp fun _ _ _ => ?_ | with_reducible refine bq ?_ | refine cl ?_ | refine sd ?_); cbv)); exact hu.symm
 ·obtain ⟨e, he⟩ : ∃ e : Nat, -n = e := ⟨(-n).toNat, by omega⟩
  have hln : cnt l = len p.num.natAbs := by
   injection ep with _ ep2
   injection ep2 with ep2 _
   rw [ep2, cnt_N]
  have hl0 : len p.num.natAbs = 0 ↔ p.num.natAbs = 0 := len_eq_zero
  by_cases hp0 : p = 0
  ·have : p.num = 0 := Rat.num_eq_zero.2 hp0
   have hl0 : cnt l = 0 := by omega
   rw [if_pos ⟨by omega, hp0⟩, show u76 (bad 3) = .agg [ub false, .l [], .l [], ui 3] from rfl] at hu
   clear ep kL hln
   cbv; (repeat ((first | with_reducible refine ln fun _ _ _ => ?_ | refine tt ?_ | refine ff ?_ | with_reducible refine wr fun _ _ => ?_ | refine rp fun _ _ _ => ?_ | with_reducible refine bq ?_ | refine cl ?_ | refine sd ?_); cbv)); exact hu.symm
  ·have hn0 : ¬ p.num = 0 := fun h => hp0 (Rat.num_eq_zero.1 h)
   have hl0 : ¬ cnt l = 0 := by omega
   rw [if_neg (fun h => hp0 h.2), show n = -(e : Int) by omega, zpow_inv] at hu
   have k2 := hC 82 wide8R (by simp) _ _ ⟨p, e, -n, hp, he, by omega, by omega, rfl, rfl⟩
   have L := len_pow64 p.den e q1.2 (by omega)
   have k3 := hC 83 turned8R (by simp) _ _ ⟨p ^ e, pow_ne hp0 e, by rw [Rat.den_pow]; omega, rfl, rfl⟩
   have k4 := kL (p ^ e)⁻¹
   rw [← ep] at k2
   obtain ⟨s2, l2, b2, k2, e2⟩ := tR k2
   rw [← e2] at k3
   obtain ⟨s3, l3, b3, k3, e3⟩ := tR k3
   rw [← e3] at k4
   obtain ⟨s6, l6, b6, e6, hu', i6⟩ := u76_parts (lim (p ^ e)⁻¹)
   rw [hu'] at k4 hu
   obtain ⟨m, k2, hm⟩ : ∃ m, C 82 [uR (s, l, b), ui m] (.agg [ub s2, .l l2, .l b2]) ∧ m = -n := ⟨_, k2, rfl⟩
   clear hu' i6 e2 e3 ep kL q1 he L hln hp0 hn0
   unfold uR at k2
   cbv
   (repeat ((first | with_reducible refine ln fun _ _ _ => ?_ | refine tt ?_ | refine ff ?_ | with_reducible refine wr fun _ _ => ?_ | refine rp fun _ _ _ => ?_ | with_reducible refine bq ?_ | refine cl ?_ | refine sd ?_); cbv))
   rename_i m' hm'
   obtain rfl : m = m' := by omega
   cbv
   (repeat ((first | with_reducible refine ln fun _ _ _ => ?_ | refine tt ?_ | refine ff ?_ | with_reducible refine wr fun _ _ => ?_ | refine rp fun _ _ _ => ?_ | with_reducible refine bq ?_ | refine cl ?_ | refine sd ?_); cbv))
   exact hu.symm⟩
def overQ (n : Int) (q : R3) : Bool := decide (n < cnt q.2.1) || decide (n < cnt q.2.2)
def overR (n : Int) (us : List U) (u : U) : Prop := ∃ q : R3, us = [uR q] ∧ u = ub (overQ n q)
theorem large_ok : SoundF Tryz.prog 30 (overR 200) := sound [] orc_nil Tryz.func30 (by kernel_rfl) (by kernel_rfl) fun us u hR => ⟨0, fun C E hC => by
 obtain ⟨⟨s, l, d⟩, rfl, hu⟩ := hR
 unfold overQ at hu
 dsimp only at hu
 cbv
 rcases Decidable.em (200 < cnt l) with h1 | h1
 ·rw [decide_eq_true h1, Bool.true_or] at hu
  (repeat ((first | with_reducible refine ln fun _ _ _ => ?_ | refine tt ?_ | refine ff ?_ | with_reducible refine wr fun _ _ => ?_ | refine rp fun _ _ _ => ?_ | with_reducible refine bq ?_ | refine cl ?_ | refine sd ?_); cbv)); exact hu.symm
 rw [decide_eq_false h1, Bool.false_or] at hu
 rcases Decidable.em (200 < cnt d) with h2 | h2
 ·rw [decide_eq_true h2] at hu
  (repeat ((first | with_reducible refine ln fun _ _ _ => ?_ | refine tt ?_ | refine ff ?_ | with_reducible refine wr fun _ _ => ?_ | refine rp fun _ _ _ => ?_ | with_reducible refine bq ?_ | refine cl ?_ | refine sd ?_); cbv)); exact hu.symm
 ·rw [decide_eq_false h2] at hu
  (repeat ((first | with_reducible refine ln fun _ _ _ => ?_ | refine tt ?_ | refine ff ?_ | with_reducible refine wr fun _ _ => ?_ | refine rp fun _ _ _ => ?_ | with_reducible refine bq ?_ | refine cl ?_ | refine sd ?_); cbv)); exact hu.symm⟩
theorem long_ok : SoundF Tryz.prog 31 (overR 70) := sound [] orc_nil Tryz.func31 (by kernel_rfl) (by kernel_rfl) fun us u hR => ⟨0, fun C E hC => by
 obtain ⟨⟨s, l, d⟩, rfl, hu⟩ := hR
 unfold overQ at hu
 dsimp only at hu
 cbv
 rcases Decidable.em (70 < cnt l) with h1 | h1
 ·rw [decide_eq_true h1, Bool.true_or] at hu
  (repeat ((first | with_reducible refine ln fun _ _ _ => ?_ | refine tt ?_ | refine ff ?_ | with_reducible refine wr fun _ _ => ?_ | refine rp fun _ _ _ => ?_ | with_reducible refine bq ?_ | refine cl ?_ | refine sd ?_); cbv)); exact hu.symm
 rw [decide_eq_false h1, Bool.false_or] at hu
 rcases Decidable.em (70 < cnt d) with h2 | h2
 ·rw [decide_eq_true h2] at hu
  (repeat ((first | with_reducible refine ln fun _ _ _ => ?_ | refine tt ?_ | refine ff ?_ | with_reducible refine wr fun _ _ => ?_ | refine rp fun _ _ _ => ?_ | with_reducible refine bq ?_ | refine cl ?_ | refine sd ?_); cbv)); exact hu.symm
 ·rw [decide_eq_false h2] at hu
  (repeat ((first | with_reducible refine ln fun _ _ _ => ?_ | refine tt ?_ | refine ff ?_ | with_reducible refine wr fun _ _ => ?_ | refine rp fun _ _ _ => ?_ | with_reducible refine bq ?_ | refine cl ?_ | refine sd ?_); cbv)); exact hu.symm⟩
def twoB (k : Int) : Bool := decide (k = 3 ∨ k = 4 ∨ k = 5 ∨ k = 6)
def isTwoR (us : List U) (u : U) : Prop := ∃ k : Int, us = [ui k] ∧ u = ub (twoB k)
theorem two_ok : SoundF Tryz.prog 28 isTwoR := sound [] orc_nil Tryz.func28 (by kernel_rfl) (by kernel_rfl) fun us u hR => ⟨0, fun C E hC => by
 obtain ⟨k, rfl, hu⟩ := hR
 unfold twoB at hu
 cbv
 rcases Decidable.em (k = 3 ∨ k = 4 ∨ k = 5 ∨ k = 6) with h | h
 ·rw [decide_eq_true h] at hu
  rcases h with h | h | h | h <;> ((repeat ((first | with_reducible refine ln fun _ _ _ => ?_ | refine tt ?_ | refine ff ?_ | with_reducible refine wr fun _ _ => ?_ | refine rp fun _ _ _ => ?_ | with_reducible refine bq ?_ | refine cl ?_ | refine sd ?_); cbv)); exact hu.symm)
 ·rw [decide_eq_false h] at hu
  (repeat ((first | with_reducible refine ln fun _ _ _ => ?_ | refine tt ?_ | refine ff ?_ | with_reducible refine wr fun _ _ => ?_ | refine rp fun _ _ _ => ?_ | with_reducible refine bq ?_ | refine cl ?_ | refine sd ?_); cbv)); exact hu.symm⟩
def limbsTo (c : List Tm) : Nat → Int
 | 0 => 0
 | i + 1 => limbsTo c i + (match c[i]? with
  | some t => cnt t.q.2.1 + cnt t.q.2.2
  | none => 0)
def largeC (c : List Tm) : Bool := decide (400 < cnt c) || (c.any fun t => overQ 200 t.q) || decide (2000 < limbsTo c c.length)
theorem limbs_next {c : List Tm} {i : Int} {t : Tm} (h0 : 0 ≤ i) (ht : c[i.toNat]? = some t) : limbsTo c (i + 1).toNat = limbsTo c i.toNat + (cnt t.q.2.1 + cnt t.q.2.2) := by
 rw [show (i + 1).toNat = i.toNat + 1 by omega, limbsTo, ht]
def largeCR (us : List U) (u : U) : Prop := ∃ c, cnt c ≤ 9223372036854775807 ∧ us = [cU c] ∧ u = ub (largeC c)
theorem any_upto {α : Type} {c : List α} {f : α → Bool} {i : Int} {t : α} (h0 : 0 ≤ i) (ht : c[i.toNat]? = some t) (hf : f t = false) (h : ∀ (x : Nat) t, (x : Int) < i → c[x]? = some t → f t = false) : ∀ (x : Nat) t, (x : Int) < i + 1 → c[x]? = some t → f t = false := fun x t' hx hx' => by
 by_cases e : (x : Int) = i
 ·rw [show x = i.toNat by omega, ht] at hx'
  injection hx' with hx'
  rw [← hx']
  exact hf
 ·exact h x t' (by omega) hx'
theorem any_yes {α : Type} {c : List α} {f : α → Bool} {i : Int} {t : α} (ht : c[i.toNat]? = some t) (hf : f t = true) : c.any f = true := List.any_eq_true.2 ⟨t, List.mem_of_getElem? ht, hf⟩
theorem any_no {α : Type} {c : List α} {f : α → Bool} (h : ∀ (x : Nat) t, (x : Int) < cnt c → c[x]? = some t → f t = false) : c.any f = false := by
 rw [Bool.eq_false_iff]
 intro hh
 obtain ⟨t, ht, hf⟩ := List.any_eq_true.1 hh
 obtain ⟨x, hx, rfl⟩ := List.mem_iff_getElem.1 ht
 rw [h x _ (by unfold cnt; omega) (List.getElem?_eq_getElem hx)] at hf
 cases hf
theorem largeC_ok : SoundF Tryz.prog 7 largeCR := sound [(30, overR 200)] (orc_cons large_ok orc_nil) Tryz.func7 (by kernel_rfl) (by kernel_rfl) fun us u hR => by
 obtain ⟨c, hn, rfl, hu⟩ := hR
 obtain ⟨r, hr⟩ : ∃ r, (cnt c).toNat < r := ⟨_, Nat.lt_succ_self _⟩
 refine ⟨r, fun C E hC => ?_⟩
 have kt : ∀ q : R3, C 30 [.agg [ub q.1, .l q.2.1, .l q.2.2]] (ub (overQ 200 q)) := fun q => hC 30 (overR 200) (by simp) _ _ ⟨q, rfl, rfl⟩
 have hm := fun i (h0 : 0 ≤ i) (h1 : i < cnt c) => nth_map (c := c) tU h0 h1
 have hc := cnt_map c tU
 have hc0 := cnt0 c
 unfold largeC at hu
 unfold cU
 generalize c.map tU = xs at *
 cbv
 rcases Decidable.em (400 < cnt c) with h4 | h4
 ·rw [decide_eq_true h4, Bool.true_or, Bool.true_or] at hu
  (repeat ((first | with_reducible refine ln fun _ _ _ => ?_ | refine tt ?_ | refine ff ?_ | with_reducible refine wr fun _ _ => ?_ | refine rp fun _ _ _ => ?_ | with_reducible refine bq ?_ | refine cl ?_ | refine sd ?_); cbv))
  exact hu.symm
 rw [decide_eq_false h4, Bool.false_or] at hu
 (repeat ((first | with_reducible refine ln fun _ _ _ => ?_ | refine tt ?_ | refine ff ?_ | with_reducible refine wr fun _ _ => ?_ | refine rp fun _ _ _ => ?_ | with_reducible refine bq ?_ | refine cl ?_ | refine sd ?_); cbv))
 refine lets [0, 3, 4] ?_
 cbv
 refine loop_inv (fun j a h => ∃ i n : Int, 0 ≤ i ∧ i ≤ cnt c ∧ j = (cnt c - i).toNat ∧ (∀ (x : Nat) t, (x : Int) < i → c[x]? = some t → overQ 200 t.q = false) ∧ n = limbsTo c i.toNat ∧ 0 ≤ n ∧ n ≤ 400 * i ∧ a = [.s 7 xs, .lost, .lost, ui n, ui i, .lost, .lost, .lost, .lost, .lost, .lost, .lost, .lost, .lost, .lost, .lost, .lost, .lost, .lost, .lost, .lost, .lost, .lost, .lost, .lost, .lost, .lost, .lost, .lost, .lost, .lost, .lost, .lost, .lost, .lost, .lost, .lost, .lost, .lost, .lost] ∧ h = []) ?_ r (cnt c).toNat _ _ hr ⟨0, 0, by omega, by omega, by omega, fun x t hx _ => absurd hx (by omega), rfl, by omega, by omega, rfl, rfl⟩
 rintro j a h K ⟨i, n, i0, i1, hj, hg, hl, n0, n1, rfl, rfl⟩ hK
 rcases Decidable.em (i < cnt c) with hlt | hlt
 ·obtain ⟨t, ht, hx⟩ := hm i i0 hlt
  have k1 := kt t.q
  have hnx := limbs_next i0 ht
  have hg1 := fun hf => any_upto (f := fun t => overQ 200 t.q) i0 ht hf hg
  have hg2 : overQ 200 t.q = true → (c.any fun t => overQ 200 t.q) = true := fun hf => any_yes (f := fun t => overQ 200 t.q) ht hf
  obtain ⟨kd, ta, tb, m, s, l, d⟩ := t
  have hov : overQ 200 (s, l, d) = false → cnt l ≤ 200 ∧ cnt d ≤ 200 := fun h => by
   unfold overQ at h
   simp only [Bool.or_eq_false_iff, decide_eq_false_iff_not] at h
   have h1 : ¬ 200 < cnt l := h.1
   have h2 : ¬ 200 < cnt d := h.2
   omega
  dsimp only at k1 hg1 hg2 hnx
  generalize overQ 200 (s, l, d) = g at *
  clear hm hg kt
  cases g
  ·have hov := hov rfl
   have hg1 := hg1 rfl
   have l0 := cnt0 l
   have d0 := cnt0 d
   clear hg2
   cbv
   (repeat ((first | with_reducible refine ln fun _ _ _ => ?_ | refine tt ?_ | refine ff ?_ | with_reducible refine wr fun _ _ => ?_ | refine rp fun _ _ _ => ?_ | with_reducible refine bq ?_ | refine cl ?_ | refine sd ?_); cbv))
   refine el ?_ (by omega) hx
   cbv
   (repeat ((first | with_reducible refine ln fun _ _ _ => ?_ | refine tt ?_ | refine ff ?_ | with_reducible refine wr fun _ _ => ?_ | refine rp fun _ _ _ => ?_ | with_reducible refine bq ?_ | refine cl ?_ | refine sd ?_); cbv))
   refine el ?_ (by omega) hx
   cbv
   (repeat ((first | with_reducible refine ln fun _ _ _ => ?_ | refine tt ?_ | refine ff ?_ | with_reducible refine wr fun _ _ => ?_ | refine rp fun _ _ _ => ?_ | with_reducible refine bq ?_ | refine cl ?_ | refine sd ?_); cbv))
   refine el ?_ (by omega) hx
   cbv
   (repeat ((first | with_reducible refine ln fun _ _ _ => ?_ | refine tt ?_ | refine ff ?_ | with_reducible refine wr fun _ _ => ?_ | refine rp fun _ _ _ => ?_ | with_reducible refine bq ?_ | refine cl ?_ | refine sd ?_); cbv))
   rename_i n' hn' i' hi'
   refine lets [0, 3, 4] ?_
   exact hK (cnt c - (i + 1)).toNat _ _ (by omega) ⟨i + 1, n', by omega, by omega, rfl, hg1, by omega, by omega, by omega, by rw [hi']; rfl, rfl⟩
  ·rw [hg2 rfl, Bool.true_or] at hu
   clear hg1 hg2 hov hK
   cbv
   (repeat ((first | with_reducible refine ln fun _ _ _ => ?_ | refine tt ?_ | refine ff ?_ | with_reducible refine wr fun _ _ => ?_ | refine rp fun _ _ _ => ?_ | with_reducible refine bq ?_ | refine cl ?_ | refine sd ?_); cbv))
   refine el ?_ (by omega) hx
   cbv
   (repeat ((first | with_reducible refine ln fun _ _ _ => ?_ | refine tt ?_ | refine ff ?_ | with_reducible refine wr fun _ _ => ?_ | refine rp fun _ _ _ => ?_ | with_reducible refine bq ?_ | refine cl ?_ | refine sd ?_); cbv))
   exact hu.symm
 ·rw [any_no (f := fun t => overQ 200 t.q) fun x t hx => hg x t (by omega), Bool.false_or, show c.length = i.toNat by unfold cnt at *; omega, ← hl] at hu
  clear hg hm kt hK
  cbv
  rcases Decidable.em (2000 < n) with h5 | h5
  ·rw [decide_eq_true h5] at hu
   (repeat ((first | with_reducible refine ln fun _ _ _ => ?_ | refine tt ?_ | refine ff ?_ | with_reducible refine wr fun _ _ => ?_ | refine rp fun _ _ _ => ?_ | with_reducible refine bq ?_ | refine cl ?_ | refine sd ?_); cbv)); exact hu.symm
  ·rw [decide_eq_false h5] at hu
   (repeat ((first | with_reducible refine ln fun _ _ _ => ?_ | refine tt ?_ | refine ff ?_ | with_reducible refine wr fun _ _ => ?_ | refine rp fun _ _ _ => ?_ | with_reducible refine bq ?_ | refine cl ?_ | refine sd ?_); cbv)); exact hu.symm
def longL (xs : List R3) : Bool := ((xs.take 101).any (overQ 70)) || decide (100 < cnt xs)
def longLR (us : List U) (u : U) : Prop := ∃ xs, cnt xs ≤ 9223372036854775807 ∧ us = [qsU xs] ∧ u = ub (longL xs)
theorem longL_ok : SoundF Tryz.prog 8 longLR := sound [(31, overR 70)] (orc_cons long_ok orc_nil) Tryz.func8 (by kernel_rfl) (by kernel_rfl) fun us u hR => by
 obtain ⟨c, hn, rfl, hu⟩ := hR
 refine ⟨1000, fun C E hC => ?_⟩
 obtain ⟨r, hr⟩ : ∃ r, r = 1000 := ⟨_, rfl⟩
 rw [← hr]
 have kt : ∀ q : R3, C 31 [.agg [ub q.1, .l q.2.1, .l q.2.2]] (ub (overQ 70 q)) := fun q => hC 31 (overR 70) (by simp) _ _ ⟨q, rfl, rfl⟩
 have hm := fun i (h0 : 0 ≤ i) (h1 : i < cnt c) => nth_map (c := c) qU h0 h1
 have hc := cnt_map c qU
 have hc0 := cnt0 c
 unfold longL at hu
 unfold qsU
 generalize c.map qU = xs at *
 cbv
 (repeat ((first | with_reducible refine ln fun _ _ _ => ?_ | refine tt ?_ | refine ff ?_ | with_reducible refine wr fun _ _ => ?_ | refine rp fun _ _ _ => ?_ | with_reducible refine bq ?_ | refine cl ?_ | refine sd ?_); cbv))
 refine lets [0, 3] ?_
 cbv
 refine loop_inv (fun j a h => ∃ i : Int, 0 ≤ i ∧ i ≤ cnt c ∧ i ≤ 101 ∧ j = (101 - i).toNat ∧ (∀ (x : Nat) t, (x : Int) < i → c[x]? = some t → overQ 70 t = false) ∧ a = [.s 3 xs, .lost, .lost, ui i, .lost, .lost, .lost, .lost, .lost, .lost, .lost, .lost, .lost, .lost, .lost, .lost, .lost, .lost, .lost, .lost, .lost, .lost] ∧ h = []) ?_ r 101 _ _ (by omega) ⟨0, by omega, by omega, by omega, by omega, fun x t hx _ => absurd hx (by omega), rfl, rfl⟩
 rintro j a h K ⟨i, i0, i1, i2, hj, hg, rfl, rfl⟩ hK
 rcases Decidable.em (i < cnt c ∧ i ≤ 100) with hlt | hlt
 ·obtain ⟨⟨s, l, d⟩, ht, hx⟩ := hm i i0 hlt.1
  have k1 := kt (s, l, d)
  have hg1 := fun hf => any_upto (f := overQ 70) i0 ht hf hg
  have hg2 : overQ 70 (s, l, d) = true → ((c.take 101).any (overQ 70)) = true := fun hf => any_yes (f := overQ 70) (i := i) (by rw [List.getElem?_take, if_pos (by omega), ht]) hf
  dsimp only at k1
  generalize overQ 70 (s, l, d) = g at *
  clear hm hg kt
  cases g
  ·have hg1 := hg1 rfl
   clear hg2
   cbv
   (repeat ((first | with_reducible refine ln fun _ _ _ => ?_ | refine tt ?_ | refine ff ?_ | with_reducible refine wr fun _ _ => ?_ | refine rp fun _ _ _ => ?_ | with_reducible refine bq ?_ | refine cl ?_ | refine sd ?_); cbv))
   refine el ?_ (by omega) hx
   cbv
   (repeat ((first | with_reducible refine ln fun _ _ _ => ?_ | refine tt ?_ | refine ff ?_ | with_reducible refine wr fun _ _ => ?_ | refine rp fun _ _ _ => ?_ | with_reducible refine bq ?_ | refine cl ?_ | refine sd ?_); cbv))
   rename_i i' hi'
   refine lets [0, 3] ?_
   exact hK (101 - (i + 1)).toNat _ _ (by omega) ⟨i + 1, by omega, by omega, by omega, rfl, hg1, by rw [hi']; rfl, rfl⟩
  ·rw [hg2 rfl, Bool.true_or] at hu
   clear hg1 hg2 hK
   cbv
   (repeat ((first | with_reducible refine ln fun _ _ _ => ?_ | refine tt ?_ | refine ff ?_ | with_reducible refine wr fun _ _ => ?_ | refine rp fun _ _ _ => ?_ | with_reducible refine bq ?_ | refine cl ?_ | refine sd ?_); cbv))
   refine el ?_ (by omega) hx
   cbv
   (repeat ((first | with_reducible refine ln fun _ _ _ => ?_ | refine tt ?_ | refine ff ?_ | with_reducible refine wr fun _ _ => ?_ | refine rp fun _ _ _ => ?_ | with_reducible refine bq ?_ | refine cl ?_ | refine sd ?_); cbv))
   exact hu.symm
 ·have hno : ((c.take 101).any (overQ 70)) = false := any_no (f := overQ 70) fun x t hx hx' => by
   rw [List.getElem?_take] at hx'
   split at hx'
   ·rename_i h101
    have := (List.getElem?_eq_some_iff.1 hx').1
    exact hg x t (by unfold cnt at *; omega) hx'
   ·cases hx'
  rw [hno, Bool.false_or] at hu
  clear hg hm kt hK hno
  cbv
  rcases Decidable.em (100 < cnt c) with h5 | h5
  ·rw [decide_eq_true h5] at hu
   rcases Decidable.em (i < cnt c) with h6 | h6 <;> ((repeat ((first | with_reducible refine ln fun _ _ _ => ?_ | refine tt ?_ | refine ff ?_ | with_reducible refine wr fun _ _ => ?_ | refine rp fun _ _ _ => ?_ | with_reducible refine bq ?_ | refine cl ?_ | refine sd ?_); cbv)); exact hu.symm)
  ·rw [decide_eq_false h5] at hu
   have h6 : ¬ i < cnt c := fun h => hlt ⟨h, by omega⟩
   (repeat ((first | with_reducible refine ln fun _ _ _ => ?_ | refine tt ?_ | refine ff ?_ | with_reducible refine wr fun _ _ => ?_ | refine rp fun _ _ _ => ?_ | with_reducible refine bq ?_ | refine cl ?_ | refine sd ?_); cbv)); exact hu.symm
end Go.Proofs.YtheciiemknmnoaaGreat.Rd
end
