/- Part 6 of the proof. -/
import Derived.Below
import Derived.Deep.Draws
import Derived.Deep.AppendLies
import Derived.Maps.AppendAt
import Derived.OwnWalk
import Derived.Laws.BytesArg
import Derived.Laws.MakeOwn
import Derived.Laws.OwnMore
import Derived.Deep.OwnRows
import Derived.Tactics
import Derived.Lib.ConvBytes
import Derived.Laws.Slices
import Derived.WalkKit
import Derived.KernelRfl
import Derived.RowKit3
import Derived.Deep.LoopGhost
import Derived.Deep.QuietTactic
import Derived.BigQuiet
import Derived.WideLaws
import Derived.Deep.DeepCutAuto
import Derived.Deep.CutBlock
import Derived.Deep.RegionHeld3
import Derived.Laws.Rows
import Derived.Lib.AppendStr
import Derived.ArgAppend
import Derived.Laws.IdiomCopy
import Derived.RowKit
import Derived.OrdersHeld
import Derived.Laws.BitsLemmas
import Derived.Test.YtjkcmnedolfkjaaGreatProg
import Derived.Laws.StructEq
import Derived.Laws.Bits64b
import Derived.Laws.BitsAllLaws
import Derived.Laws.Tables
import Derived.Orders
import Derived.Laws.Cells
import Derived.Great.BuildSlice
import Derived.Deep.Slices
import Derived.Laws.AppendOwn
import Derived.Laws.LoneSync
import Derived.LoopN
import Derived.Test.YtjkcmnedolfkjaaGreatRows
import Derived.ProofKit
import Derived.OpenShut
import Derived.ShutString
import Derived.ChangeOld
import Derived.ChangeSame
import Derived.Lib.SmallJoins
import Derived.DataReads
import Derived.Conc.MuLone
import Derived.RegionTactic
import Derived.RegionCalls
import Derived.ChangeAlike
import Derived.Test.YtjkcmnedolfkjaaGreatU5
set_option linter.unusedVariables false
set_option linter.unusedSimpArgs false
section
set_option linter.unusedVariables false
set_option linter.unusedSimpArgs false
namespace Go.Proofs.YtjkcmnedolfkjaaGreat.Num
open Go.RowKit Go.Proofs.YtjkcmnedolfkjaaGreatW.PrintWords Go.Proofs.YtjkcmnedolfkjaaGreatW.PrintMore Go.Proofs.YtjkcmnedolfkjaaGreat.PL

def Z (neg : Bool) (l : List Int) : Int := if neg = true then -(V l : Int) else (V l : Int)
def I (z : Int) : Bool × List Int := (decide (z < 0), N z.natAbs)
theorem Z_abs (neg : Bool) (l : List Int) : (Z neg l).natAbs = V l := by unfold Z; split <;> omega
theorem I_1 (z : Int) : (I z).1 = decide (z < 0) := rfl
theorem I_2 (z : Int) : (I z).2 = N z.natAbs := rfl
theorem Z_I (z : Int) : Z (I z).1 (I z).2 = z := by
 unfold Z I
 simp only [V_N, decide_eq_true_eq]
 split <;> omega
def cmpZ (a b : Int) : Int := if a < b then -1 else if b < a then 1 else 0
abbrev R3 : Type := Bool × List Int × List Int
abbrev R4 : Type := Bool × List Int × List Int × Int
def ratOf (q : Rat) : R3 := (decide (q.num < 0), N q.num.natAbs, N q.den)
def fits (q : Rat) : Bool := decide (len q.num.natAbs ≤ 64) && decide (len q.den ≤ 64)
def bad (e : Int) : R4 := (false, [], [], e)
def lim (q : Rat) : R4 := if fits q = true then ((ratOf q).1, (ratOf q).2.1, (ratOf q).2.2, 0) else bad 2
def qOf (a : R3) : Rat := mkRat (Z a.1 a.2.1) (V a.2.2)
def goodB (a : R3) : Bool := decide (N (V a.2.1) = a.2.1) && decide (N (V a.2.2) = a.2.2) && decide (a.2.2.length ≠ 0) && decide (a.2.2.length ≤ 64) && decide (a.2.1.length ≤ 64) && !(a.1 && decide (a.2.1.length = 0)) && decide (Nat.gcd (V a.2.1) (V a.2.2) = 1)
theorem mk_parts (z : Int) (b : Nat) (hb : b ≠ 0) : (mkRat z b).num.natAbs = z.natAbs / Nat.gcd z.natAbs b ∧ (mkRat z b).den = b / Nat.gcd z.natAbs b ∧ decide ((mkRat z b).num < 0) = decide (z < 0) := by
 rw [Rat.num_mkRat, Rat.den_mkRat, if_neg hb, if_neg hb, Nat.gcd_comm b]
 have hg : 0 < Nat.gcd z.natAbs b := Nat.gcd_pos_of_pos_right _ (by omega)
 have hd : ((Nat.gcd z.natAbs b : Nat) : Int) ∣ z := Int.ofNat_dvd_left.2 (Nat.gcd_dvd_left _ _)
 generalize Nat.gcd z.natAbs b = g at *
 obtain ⟨c, hc⟩ := hd
 refine ⟨?_, rfl, ?_⟩
 ·rw [hc, Int.mul_ediv_cancel_left _ (by omega), Int.natAbs_mul, Int.natAbs_natCast, Nat.mul_div_cancel_left _ hg]
 ·rw [hc, Int.mul_ediv_cancel_left _ (by omega), decide_eq_decide]
  constructor
  ·intro h
   exact Int.mul_neg_of_pos_of_neg (by omega) h
  ·intro h
   by_cases h2 : c < 0
   ·exact h2
   ·have := Int.mul_nonneg (show 0 ≤ (g : Int) from by omega) (show 0 ≤ c from by omega)
    omega
theorem good_iff {a : R3} : goodB a = true ↔ ∃ q : Rat, fits q = true ∧ a = ratOf q := by
 obtain ⟨neg, l, b⟩ := a
 unfold goodB
 simp only [Bool.and_eq_true, decide_eq_true_eq, Bool.not_eq_true', Bool.and_eq_false_iff, decide_eq_false_iff_not]
 constructor
 ·rintro ⟨⟨⟨⟨⟨⟨h1, h2⟩, h3⟩, h4⟩, h5⟩, h6⟩, h7⟩
  have hB : V b ≠ 0 := fun h => by
   rw [h, N_zero] at h2
   exact h3 (by rw [← h2]; rfl)
  obtain ⟨p1, p2, p3⟩ := mk_parts (Z neg l) (V b) hB
  rw [Z_abs, h7, Nat.div_one] at p1 p2
  have hlen1 : len (V l) = l.length := by rw [← N_length, h1]
  have hlen2 : len (V b) = b.length := by rw [← N_length, h2]
  refine ⟨mkRat (Z neg l) (V b), ?_, ?_⟩
  ·unfold fits
   rw [p1, p2, hlen1, hlen2, decide_eq_true h5, decide_eq_true h4]
   rfl
  ·unfold ratOf
   rw [p1, p2, p3, h1, h2]
   have : neg = decide (Z neg l < 0) := by
    have h0 : len (V l) = 0 ↔ V l = 0 := len_eq_zero
    unfold Z
    cases neg with
    | false => rw [if_neg (by simp)]; exact (decide_eq_false (by omega)).symm
    | true =>
     rw [if_pos rfl]
     refine (decide_eq_true ?_).symm
     rcases h6 with h6 | h6
     ·cases h6
     ·omega
   rw [← this]
 ·rintro ⟨q, hf, he⟩
  unfold ratOf at he
  injection he with e1 e2
  injection e2 with e2 e3
  subst e1 e2 e3
  unfold fits at hf
  simp only [Bool.and_eq_true, decide_eq_true_eq] at hf
  rw [V_N, V_N, N_length, N_length]
  have hd := q.den_nz
  refine ⟨⟨⟨⟨⟨⟨rfl, rfl⟩, fun h => hd (len_eq_zero.1 h)⟩, hf.2⟩, hf.1⟩, ?_⟩, q.reduced⟩
  by_cases h : q.num < 0
  ·right
   intro h2
   have := len_eq_zero.1 h2
   omega
  ·left
   exact decide_eq_false h
theorem Z_ratOf (q : Rat) : Z (ratOf q).1 (ratOf q).2.1 = q.num := Z_I q.num
theorem V_ratOf (q : Rat) : V (ratOf q).2.2 = q.den := V_N _
theorem qOf_ratOf (q : Rat) : qOf (ratOf q) = q := by
 unfold qOf
 rw [Z_ratOf, V_ratOf, Rat.mkRat_self]
structure LR (a : R3) : Prop where
 t : Limbs a.2.1
 b : Limbs a.2.2
 lt : a.2.1.length < 100000
 lb : a.2.2.length < 100000
theorem fits_len {q : Rat} (h : fits q = true) : len q.num.natAbs ≤ 64 ∧ len q.den ≤ 64 := by
 unfold fits at h
 simpa using h
theorem LR_ratOf {q : Rat} (h : fits q = true) : LR (ratOf q) := by
 obtain ⟨h1, h2⟩ := fits_len h
 exact ⟨N_limbs _, N_limbs _, by show len q.num.natAbs < _; omega, by show len q.den < _; omega⟩
theorem good_ratOf {q : Rat} (h : fits q = true) : goodB (ratOf q) = true := good_iff.2 ⟨q, h, rfl⟩
def addS (a b : R3) : R4 := if (goodB a && goodB b) = true then lim (qOf a + qOf b) else bad 1
def mulS (a b : R3) : R4 := if (goodB a && goodB b) = true then lim (qOf a * qOf b) else bad 1
def divS (a b : R3) : R4 := if (goodB a && goodB b) = true then (if qOf b = 0 then bad 3 else lim (qOf a / qOf b)) else bad 1
def subS (a b : R3) : R4 := if (goodB a && goodB b) = true then lim (qOf a - qOf b) else bad 1
def none3 : R3 := (false, [], [])
def negS (a : R3) : R3 := if goodB a = true then ratOf (-qOf a) else none3
def cmpQ (p q : Rat) : Int := if p < q then -1 else if q < p then 1 else 0
theorem len_mul (a b : Nat) : len (a * b) ≤ len a + len b := len_le.2 (by rw [Nat.pow_add]; exact Nat.mul_lt_mul'' (lt_len a) (lt_len b))
theorem len_mulZ (a b : Int) : len (a * b).natAbs ≤ len a.natAbs + len b.natAbs := by rw [Int.natAbs_mul]; exact len_mul _ _
theorem len_add (a b : Nat) : len (a + b) ≤ len a + len b + 1 := len_le.2 (by
 have h3 := lt_len a
 have h4 := lt_len b
 have h5 : 4294967296 ^ len a ≤ 4294967296 ^ (len a + len b) := Nat.pow_le_pow_right (by omega) (by omega)
 have h6 : 4294967296 ^ len b ≤ 4294967296 ^ (len a + len b) := Nat.pow_le_pow_right (by omega) (by omega)
 rw [Nat.pow_succ]
 omega)
theorem len_addZ (a b : Int) : len (a + b).natAbs ≤ len a.natAbs + len b.natAbs + 1 := Nat.le_trans (len_mono (Int.natAbs_add_le a b)) (len_add _ _)
theorem inv_mk (q : Rat) (h : q.num ≠ 0) : q⁻¹ = mkRat (if q.num < 0 then -(q.den : Int) else (q.den : Int)) q.num.natAbs := by
 rw [Rat.inv_def]
 generalize q.num = z at *
 cases z with
 | ofNat n => rw [if_neg (by simp)]; rfl
 | negSucc n =>
  rw [if_pos (Int.negSucc_lt_zero n)]
  show Rat.normalize (-(q.den : Int)) (n + 1) (Nat.succ_ne_zero n) = _
  rw [Rat.normalize_eq_mkRat]
  rfl
theorem div_mk (p q : Rat) (h : q.num ≠ 0) : mkRat (if q.num < 0 then -(p.num * q.den) else p.num * q.den) (p.den * q.num.natAbs) = p / q := by
 rw [Rat.div_def, inv_mk q h]
 conv => rhs; rw [← Rat.mkRat_self p, Rat.mkRat_mul_mkRat]
 split
 ·rw [Int.mul_neg]
 ·rfl
theorem fits_neg (q : Rat) : fits (-q) = fits q := by unfold fits; rw [Rat.neg_num, Rat.neg_den, Int.natAbs_neg]
theorem good_none : goodB none3 = false := by unfold goodB none3; simp
theorem LR_neg {a : R3} : LR (negS a) := by
 unfold negS
 by_cases h : goodB a = true
 ·rw [if_pos h]
  obtain ⟨p, hp, rfl⟩ := good_iff.1 h
  rw [qOf_ratOf]
  exact LR_ratOf (by rw [fits_neg]; exact hp)
 ·rw [if_neg h]
  exact ⟨Limbs.nil, Limbs.nil, by show 0 < _; omega, by show 0 < _; omega⟩
theorem sub_eq (a b : R3) : addS a (negS b) = subS a b := by
 unfold addS subS negS
 by_cases h : goodB b = true
 ·rw [if_pos h]
  obtain ⟨p, hp, rfl⟩ := good_iff.1 h
  rw [qOf_ratOf, qOf_ratOf, good_ratOf (by rw [fits_neg]; exact hp), h, Rat.sub_eq_add_neg]
 ·rw [if_neg h, good_none, Bool.and_false, if_neg (by simp), if_neg (by simp [h])]
theorem cmpZ_cmpQ (p q : Rat) : cmpZ (p.num * q.den) (q.num * p.den) = cmpQ p q := by
 unfold cmpZ cmpQ
 simp only [Rat.lt_iff]
theorem ratOf_int (v : Int) : ratOf (v : Rat) = ((I v).1, (I v).2, N 1) := by
 unfold ratOf I
 rw [Rat.num_intCast, Rat.den_intCast]
theorem fits_int (v : Int) (h : v.natAbs < 18446744073709551616) : fits (v : Rat) = true := by
 unfold fits
 rw [Rat.num_intCast, Rat.den_intCast]
 have h1 : len v.natAbs ≤ 2 := len_le.2 (by omega)
 have h2 : len 1 ≤ 1 := len_le.2 (by omega)
 simp
 omega
theorem N_one : N 1 = [1] := by rw [N_pos (by omega), N_zero]; rfl
structure LB (a : R3) : Prop where
 t : Limbs a.2.1
 b : Limbs a.2.2
 lt : a.2.1.length < 9223372036854775808
 lb : a.2.2.length < 9223372036854775808
theorem LR.wide {a : R3} (h : LR a) : LB a := ⟨h.t, h.b, by have := h.lt; omega, by have := h.lb; omega⟩
def powS (a : R3) (n : Int) : R4 := if goodB a = true then (if -128 ≤ n ∧ n ≤ 128 then (if n < 0 ∧ qOf a = 0 then bad 3 else lim (qOf a ^ n)) else bad 2) else bad 1
theorem pow_sign (p : Rat) (e : Nat) (h0 : 0 < e) (h1 : e ≤ 128) : Z ((ratOf p).1 && (Int.tmod (e : Int) 2 == 1)) (N (p.num.natAbs ^ e)) = p.num ^ e := by
 unfold Z
 rw [V_N, show (ratOf p).1 = decide (p.num < 0) from rfl]
 generalize p.num = z
 have ht : Int.tmod (e : Int) 2 = ((e % 2 : Nat) : Int) := rfl
 rw [ht]
 by_cases hz : z < 0
 ·rw [decide_eq_true hz, Bool.true_and]
  obtain ⟨m, rfl⟩ : ∃ m : Nat, z = -(m : Int) := ⟨z.natAbs, by omega⟩
  rw [Int.natAbs_neg, Int.natAbs_natCast, Int.natCast_pow]
  rcases Nat.mod_two_eq_zero_or_one e with h | h
  ·rw [h, if_neg (by decide)]
   obtain ⟨c, hc⟩ : ∃ c, e = 2 * c := ⟨e / 2, by omega⟩
   rw [hc, Int.pow_mul, Int.pow_mul]
   congr 1
   rw [Int.pow_succ, Int.pow_succ, Int.pow_succ, Int.pow_succ, Int.pow_zero, Int.pow_zero, Int.one_mul, Int.one_mul, Int.neg_mul_neg]
  ·rw [h, if_pos (by decide)]
   obtain ⟨c, hc⟩ : ∃ c, e = 2 * c + 1 := ⟨e / 2, by omega⟩
   rw [hc, Int.pow_succ, Int.pow_succ, Int.pow_mul, Int.pow_mul, Int.mul_neg]
   congr 3
   rw [Int.pow_succ, Int.pow_succ, Int.pow_succ, Int.pow_succ, Int.pow_zero, Int.pow_zero, Int.one_mul, Int.one_mul, Int.neg_mul_neg]
 ·rw [decide_eq_false hz, Bool.false_and, if_neg (by simp), Int.natCast_pow]
  congr 1
  omega
theorem pow_mk (p : Rat) (e : Nat) : mkRat (p.num ^ e) (p.den ^ e) = p ^ e := by
 have := Rat.mkRat_self (p ^ e)
 rw [Rat.num_pow, Rat.den_pow] at this
 exact this
theorem pow_far (p : Rat) (e : Nat) (h : ¬ (len (p.num.natAbs ^ e) ≤ 256) ∨ ¬ (len (p.den ^ e) ≤ 256)) : lim (p ^ e) = bad 2 := by
 unfold lim
 rw [if_neg]
 unfold fits
 rw [Rat.num_pow, Rat.den_pow, Int.natAbs_pow]
 intro h2
 simp only [Bool.and_eq_true, decide_eq_true_eq] at h2
 omega
theorem inv_parts (q : Rat) (h : q ≠ 0) : (q⁻¹).num.natAbs = q.den ∧ (q⁻¹).den = q.num.natAbs := by
 have hz : q.num ≠ 0 := fun h2 => h (Rat.num_eq_zero.1 h2)
 rw [inv_mk q hz]
 obtain ⟨p1, p2, _⟩ := mk_parts (if q.num < 0 then -(q.den : Int) else (q.den : Int)) q.num.natAbs (by omega)
 have e : (if q.num < 0 then -(q.den : Int) else (q.den : Int)).natAbs = q.den := by split <;> omega
 have hr : Nat.gcd q.den q.num.natAbs = 1 := by rw [Nat.gcd_comm]; exact q.reduced
 rw [e, hr, Nat.div_one] at p1 p2
 exact ⟨p1, p2⟩
theorem fits_inv {q : Rat} (hq : fits q = true) (h : q ≠ 0) : fits q⁻¹ = true := by
 obtain ⟨f1, f2⟩ := fits_len hq
 obtain ⟨e1, e2⟩ := inv_parts q h
 unfold fits
 rw [e1, e2, decide_eq_true f1, decide_eq_true f2]
 rfl
theorem inv_pow (p : Rat) (e : Nat) : p⁻¹ ^ e = (p ^ e)⁻¹ := by
 induction e with
 | zero => rw [Rat.pow_zero, Rat.pow_zero]; decide +kernel
 | succ e ih => rw [Rat.pow_succ, Rat.pow_succ, ih, Rat.inv_mul_rev, Rat.mul_comm]
theorem lim_fits {q : Rat} (h : fits q = true) : lim q = ((ratOf q).1, (ratOf q).2.1, (ratOf q).2.2, 0) := if_pos h
theorem cmpQ_self (p : Rat) : cmpQ p p = 0 := by
 unfold cmpQ
 rw [if_neg (by grind), if_neg (by grind)]
theorem divS_fits {p q : Rat} (hp : fits p = true) (hq : fits q = true) (h0 : q ≠ 0) (hf : fits (p / q) = true) : divS (ratOf p) (ratOf q) = ((ratOf (p / q)).1, (ratOf (p / q)).2.1, (ratOf (p / q)).2.2, 0) := by
 unfold divS
 rw [good_ratOf hp, good_ratOf hq, qOf_ratOf, qOf_ratOf, if_neg h0, lim_fits hf]
 rfl
theorem fits_one : fits (1 : Rat) = true := by decide +kernel
theorem sign_mul (x y : Int) : Z (decide (x < 0) != decide (y < 0)) (N (x.natAbs * y.natAbs)) = x * y := by
 unfold Z
 rw [V_N, Int.natCast_mul]
 by_cases hx : x < 0 <;> by_cases hy : y < 0
 ·rw [decide_eq_true hx, decide_eq_true hy, if_neg (by decide), show ((x.natAbs : Nat) : Int) = -x from by omega, show ((y.natAbs : Nat) : Int) = -y from by omega, Int.neg_mul_neg]
 ·rw [decide_eq_true hx, decide_eq_false hy, if_pos (by decide), show ((x.natAbs : Nat) : Int) = -x from by omega, show ((y.natAbs : Nat) : Int) = y from by omega, Int.neg_mul, Int.neg_neg]
 ·rw [decide_eq_false hx, decide_eq_true hy, if_pos (by decide), show ((x.natAbs : Nat) : Int) = x from by omega, show ((y.natAbs : Nat) : Int) = -y from by omega, Int.mul_neg, Int.neg_neg]
 ·rw [decide_eq_false hx, decide_eq_false hy, if_neg (by decide), show ((x.natAbs : Nat) : Int) = x from by omega, show ((y.natAbs : Nat) : Int) = y from by omega]
end Go.Proofs.YtjkcmnedolfkjaaGreat.Num
end
section
set_option linter.unusedVariables false
set_option linter.unusedSimpArgs false
set_option maxRecDepth 100000
set_option maxHeartbeats 4000000
namespace Go.Proofs.YtjkcmnedolfkjaaGreat.Rd
open Go Go.RowKit Go.Proofs.YtjkcmnedolfkjaaGreatW.PrintWords Go.Proofs.YtjkcmnedolfkjaaGreat.PL Go.Proofs.YtjkcmnedolfkjaaGreat.Num

abbrev ui (n : Int) : U := .v (.int .i64 n)
abbrev ub (b : Bool) : U := .v (.bool b)
def uI (z : Int) : U := .agg [ub (decide (z < 0)), .l (N z.natAbs)]
theorem cnt_N (n : Nat) : cnt (N n) = len n := rfl
theorem lenV {l : List Int} (h : Limbs l) : (len (V l) : Int) ≤ cnt l := by have := len_V h; unfold cnt; omega
theorem tI {C : Orc} {n : Nat} {us : List U} {z : Int} (h : C n us (uI z)) : ∃ s l, C n us (.agg [ub s, .l l]) ∧ s = decide (z < 0) ∧ l = N z.natAbs := ⟨_, _, h, rfl, rfl⟩
theorem tN {C : Orc} {n : Nat} {us : List U} {x : Nat} (h : C n us (.l (N x))) : ∃ l, C n us (.l l) ∧ l = N x := ⟨_, h, rfl⟩
theorem trimR {l : List Int} (hl : Limbs l) (hs : cnt l ≤ 1000000) : nat_Trim.R [.l l] (.l (N (V l))) := by obtain ⟨k, hk⟩ := (trim_tells hl (by unfold cnt at hs; omega)).rounds; exact ⟨k, _, _, rfl, hk, rfl⟩
theorem mulR {a b : List Int} (ha : Limbs a) (hb : Limbs b) (h1 : cnt a ≤ 1000000) (h2 : cnt b ≤ 1000000) : mul_Of.R [.l a, .l b] (.l (N (V a * V b))) := by obtain ⟨k, hk⟩ := (mul_tells ha hb (by unfold cnt at h1; omega) (by unfold cnt at h2; omega)).rounds; exact ⟨k, _, _, _, rfl, hk, rfl⟩
theorem addR {a b : List Int} (ha : Limbs a) (hb : Limbs b) (h1 : cnt a ≤ 1000000) (h2 : cnt b ≤ 1000000) : nat_Add.R [.l a, .l b] (.l (N (V a + V b))) := by obtain ⟨k, hk⟩ := (add_tells ha hb (by unfold cnt at h1; omega) (by unfold cnt at h2; omega)).rounds; exact ⟨k, _, _, _, rfl, hk, rfl⟩
theorem subR {a b : List Int} (ha : Limbs a) (hb : Limbs b) (h1 : cnt a ≤ 1000000) (h2 : cnt b ≤ 1000000) : nat_Sub.R [.l a, .l b] (.tup [.l (if V a < V b then [] else N (V a - V b)), ub (decide (V b ≤ V a))]) := by
 obtain ⟨k, hk⟩ := (sub_tells ha hb (by unfold cnt at h1; omega) (by unfold cnt at h2; omega)).rounds
 by_cases h : V a < V b
 ·rw [if_pos h] at hk; rw [if_pos h, decide_eq_false (by omega)]; exact ⟨k, _, _, _, _, rfl, hk, rfl⟩
 ·rw [if_neg h] at hk; rw [if_neg h, decide_eq_true (by omega)]; exact ⟨k, _, _, _, _, rfl, hk, rfl⟩
theorem ncmpR {a b : List Int} (ha : Limbs a) (hb : Limbs b) (h1 : cnt a ≤ 1000000) (h2 : cnt b ≤ 1000000) : nat_Cmp.R [.l a, .l b] (ui (cmpN (V a) (V b))) := by obtain ⟨k, hk⟩ := (cmp_tells ha hb (by unfold cnt at h1; omega) (by unfold cnt at h2; omega)).rounds; exact ⟨k, _, _, _, rfl, hk, rfl⟩
theorem gcdR {a b : List Int} (ha : Limbs a) (hb : Limbs b) (h1 : cnt a ≤ 1000000) (h2 : cnt b ≤ 1000000) : quo_Gcd.R [.l a, .l b] (.l (N (Nat.gcd (V a) (V b)))) := by obtain ⟨k, hk⟩ := (gcd_tells ha hb (by unfold cnt at h1; omega) (by unfold cnt at h2; omega)).rounds; exact ⟨k, _, _, _, rfl, hk, rfl⟩
theorem nofR (n : Nat) (h : n < 18446744073709551616) : nat_Of.R [.v (.int .u64 n)] (.l (N n)) := by obtain ⟨k, hk⟩ := (nat_of_tells (v := n) (by omega) (by omega)).rounds; rw [Int.toNat_natCast] at hk; exact ⟨k, _, _, rfl, hk, rfl⟩
def madeR (us : List U) (u : U) : Prop := ∃ s l, Limbs l ∧ cnt l ≤ 1000000 ∧ us = [ub s, .l l] ∧ u = uI (Z s l)
theorem uI_Z (s : Bool) (l : List Int) : uI (Z s l) = .agg [ub (s && decide (0 < cnt (N (V l)))), .l (N (V l))] := by
 unfold uI
 rw [Z_abs, cnt_N]
 have h0 : len (V l) = 0 ↔ V l = 0 := len_eq_zero
 have e : decide (Z s l < 0) = (s && decide (0 < (len (V l) : Int))) := by
  unfold Z
  cases s with
  | false => rw [if_neg (by simp), Bool.false_and]; exact decide_eq_false (by omega)
  | true => rw [if_pos rfl, Bool.true_and, decide_eq_decide]; omega
 rw [e]
theorem made_ok : SoundF Tryz.prog 132 madeR := sound [(133, nat_Trim.R)] (orc_cons nat_Trim.sound orc_nil) Tryz.func132 (by kernel_rfl) (by kernel_rfl) fun us u hR => ⟨0, fun C E hC => by
 obtain ⟨s, l, hl, hs, rfl, hu⟩ := hR
 rw [uI_Z] at hu
 obtain ⟨l', k1, el⟩ := tN (hC 133 nat_Trim.R (by simp) _ _ (trimR hl hs))
 rw [← el] at hu
 clear el
 have g := cnt0 l'
 by_cases h0 : 0 < cnt l' <;> cases s <;> cbv <;> (repeat ((first | refine ln fun _ _ _ => ?_ | refine tt ?_ | refine ff ?_ | refine rp fun _ _ _ => ?_ | refine cp fun _ => ?_ | refine cl ?_ | refine sd ?_); cbv)) <;> (rw [hu]; simp [h0])⟩
def wTrimR (us : List U) (u : U) : Prop := ∃ s l, Limbs l ∧ cnt l ≤ 1000000 ∧ us = [.agg [ub s, .l l]] ∧ u = uI (Z s l)
theorem wTrim_ok : SoundF Tryz.prog 142 wTrimR := sound [(132, madeR)] (orc_cons made_ok orc_nil) Tryz.func142 (by kernel_rfl) (by kernel_rfl) fun us u hR => ⟨0, fun C E hC => by
 obtain ⟨s, l, hl, hs, rfl, hu⟩ := hR
 obtain ⟨s1, l1, k1, e1, e2⟩ := tI (hC 132 madeR (by simp) _ _ ⟨s, l, hl, hs, rfl, rfl⟩)
 cbv
 (repeat ((refine cl ?_); cbv))
 rw [hu, e1, e2]; rfl⟩
def wNegR (us : List U) (u : U) : Prop := ∃ s l, Limbs l ∧ cnt l ≤ 1000000 ∧ us = [.agg [ub s, .l l]] ∧ u = uI (-Z s l)
theorem Z_not (s : Bool) (l : List Int) : Z (!s) l = -Z s l := by unfold Z; cases s <;> simp
theorem wNeg_ok : SoundF Tryz.prog 105 wNegR := sound [(132, madeR)] (orc_cons made_ok orc_nil) Tryz.func105 (by kernel_rfl) (by kernel_rfl) fun us u hR => ⟨0, fun C E hC => by
 obtain ⟨s, l, hl, hs, rfl, hu⟩ := hR
 rw [← Z_not] at hu
 generalize hs' : (!s) = s' at hu
 obtain ⟨s1, l1, k1, e1, e2⟩ := tI (hC 132 madeR (by simp) _ _ ⟨s', l, hl, hs, rfl, rfl⟩)
 cases s <;> subst hs' <;> cbv <;> (repeat ((first | with_reducible refine bq ?_ | refine cl ?_); cbv)) <;> (rw [hu, e1, e2]; rfl)⟩
def wMulR (us : List U) (u : U) : Prop := ∃ s1 l1 s2 l2, Limbs l1 ∧ Limbs l2 ∧ cnt l1 ≤ 100000 ∧ cnt l2 ≤ 100000 ∧ us = [.agg [ub s1, .l l1], .agg [ub s2, .l l2]] ∧ u = uI (Z s1 l1 * Z s2 l2)
theorem Z_mul (s1 s2 : Bool) (l1 l2 : List Int) : Z (s1 != s2) (N (V l1 * V l2)) = Z s1 l1 * Z s2 l2 := by
 unfold Z
 rw [V_N]
 cases s1 <;> cases s2 <;> simp [Int.mul_neg, Int.neg_mul]
theorem cnt_mul {l1 l2 : List Int} (h1 : Limbs l1) (h2 : Limbs l2) : cnt (N (V l1 * V l2)) ≤ cnt l1 + cnt l2 := by
 have := len_mul (V l1) (V l2)
 have := lenV h1
 have := lenV h2
 rw [cnt_N]
 omega
theorem wMul_ok : SoundF Tryz.prog 123 wMulR := sound [(132, madeR), (122, mul_Of.R)] (orc_cons made_ok (orc_cons mul_Of.sound orc_nil)) Tryz.func123 (by kernel_rfl) (by kernel_rfl) fun us u hR => ⟨0, fun C E hC => by
 obtain ⟨s1, l1, s2, l2, h1, h2, c1, c2, rfl, hu⟩ := hR
 rw [← Z_mul] at hu
 have c3 := cnt_mul h1 h2
 obtain ⟨l3, k1, e3⟩ := tN (hC 122 mul_Of.R (by simp) _ _ (mulR h1 h2 (by omega) (by omega)))
 obtain ⟨s4, l4, k2, e4, e5⟩ := tI (hC 132 madeR (by simp) _ _ ⟨s1 != s2, N (V l1 * V l2), N_limbs _, by omega, rfl, rfl⟩)
 rw [← e3] at k2 hu e4 e5
 clear e3
 cases s1 <;> cases s2 <;> cbv <;> (repeat ((first | with_reducible refine bq ?_ | refine cl ?_); cbv)) <;> (rw [hu, e4, e5]; rfl)⟩
def wAddR (us : List U) (u : U) : Prop := ∃ s1 l1 s2 l2, Limbs l1 ∧ Limbs l2 ∧ cnt l1 ≤ 100000 ∧ cnt l2 ≤ 100000 ∧ us = [.agg [ub s1, .l l1], .agg [ub s2, .l l2]] ∧ u = uI (Z s1 l1 + Z s2 l2)
theorem wAdd_ok : SoundF Tryz.prog 120 wAddR := sound [(132, madeR), (142, wTrimR), (143, nat_Add.R), (144, nat_Sub.R)] (orc_cons made_ok (orc_cons wTrim_ok (orc_cons nat_Add.sound (orc_cons nat_Sub.sound orc_nil)))) Tryz.func120 (by kernel_rfl) (by kernel_rfl) fun us u hR => ⟨0, fun C E hC => by
 obtain ⟨s1, l1, s2, l2, h1, h2, c1, c2, rfl, hu⟩ := hR
 obtain ⟨t1, m1, k1, e1, f1⟩ := tI (hC 142 wTrimR (by simp) _ _ ⟨s1, l1, h1, by omega, rfl, rfl⟩)
 obtain ⟨t2, m2, k2, e2, f2⟩ := tI (hC 142 wTrimR (by simp) _ _ ⟨s2, l2, h2, by omega, rfl, rfl⟩)
 have b1 := lenV h1
 have b2 := lenV h2
 rw [Z_abs] at f1 f2
 rw [← Z_abs s1 l1] at f1 b1
 rw [← Z_abs s2 l2] at f2 b2
 generalize Z s1 l1 = x at *
 generalize Z s2 l2 = y at *
 have g1 : Limbs m1 := f1 ▸ N_limbs _
 have g2 : Limbs m2 := f2 ▸ N_limbs _
 have v1 : V m1 = x.natAbs := by rw [f1, V_N]
 have v2 : V m2 = y.natAbs := by rw [f2, V_N]
 have d1 : cnt m1 ≤ 100000 := by rw [f1, cnt_N]; omega
 have d2 : cnt m2 ≤ 100000 := by rw [f2, cnt_N]; omega
 have fin : ∀ (s : Bool) (n : Nat), Z s (N n) = x + y → len n ≤ len x.natAbs + len y.natAbs + 1 → ∃ s4 l4, C 132 [ub s, .l (N n)] (.agg [ub s4, .l l4]) ∧ u = .agg [ub s4, .l l4] := fun s n hz hn => by
  have hs := hC 132 madeR (by simp) _ _ ⟨s, N n, N_limbs _, by rw [cnt_N]; omega, rfl, rfl⟩
  rw [hz] at hs
  exact ⟨_, _, hs, hu⟩
 have L1 := len_add x.natAbs y.natAbs
 by_cases hc : t1 = t2
 ·have k3 := hC 143 nat_Add.R (by simp) _ _ (addR g1 g2 (by omega) (by omega))
  rw [v1, v2] at k3
  obtain ⟨s4, l4, k4, hu'⟩ := fin t1 (x.natAbs + y.natAbs) (by unfold Z; rw [V_N, e1]; rw [e1, e2, decide_eq_decide] at hc; simp only [decide_eq_true_eq]; split <;> omega) (by omega)
  obtain ⟨l3, k3, e3⟩ := tN k3
  rw [← e3] at k4
  clear fin hu e3 e1 e2
  subst hc
  cases t1 <;> cbv <;> (repeat ((first | with_reducible refine bq ?_ | refine cl ?_); cbv)) <;> exact hu'.symm
 ·have k3 := hC 144 nat_Sub.R (by simp) _ _ (subR g1 g2 (by omega) (by omega))
  rw [v1, v2] at k3
  by_cases hlt : x.natAbs < y.natAbs
  ·have k5 := hC 144 nat_Sub.R (by simp) _ _ (subR g2 g1 (by omega) (by omega))
   rw [v1, v2, if_neg (by omega), decide_eq_true (by omega)] at k5
   rw [if_pos hlt, decide_eq_false (by omega)] at k3
   obtain ⟨s4, l4, k4, hu'⟩ := fin t2 (y.natAbs - x.natAbs) (by unfold Z; rw [V_N, e2]; rw [e1, e2, decide_eq_decide] at hc; simp only [decide_eq_true_eq]; split <;> omega) (by have := len_mono (a := y.natAbs - x.natAbs) (b := y.natAbs) (by omega); omega)
   generalize N (y.natAbs - x.natAbs) = l3 at *
   clear fin hu e1 e2
   cases t1 <;> cases t2 <;> first | exact absurd rfl hc | (cbv; (repeat ((first | with_reducible refine bq ?_ | refine cl ?_); cbv)); exact hu'.symm)
  ·rw [if_neg hlt, decide_eq_true (by omega)] at k3
   obtain ⟨s4, l4, k4, hu'⟩ := fin t1 (x.natAbs - y.natAbs) (by unfold Z; rw [V_N, e1]; rw [e1, e2, decide_eq_decide] at hc; simp only [decide_eq_true_eq]; split <;> omega) (by have := len_mono (a := x.natAbs - y.natAbs) (b := x.natAbs) (by omega); omega)
   generalize N (x.natAbs - y.natAbs) = l3 at *
   clear fin hu e1 e2
   cases t1 <;> cases t2 <;> first | exact absurd rfl hc | (cbv; (repeat ((first | with_reducible refine bq ?_ | refine cl ?_); cbv)); exact hu'.symm)⟩
def wOfR (us : List U) (u : U) : Prop := ∃ v : Int, -9223372036854775808 ≤ v ∧ v ≤ 9223372036854775807 ∧ us = [ui v] ∧ u = uI v
theorem wOf_ok : SoundF Tryz.prog 108 wOfR := sound [(132, madeR), (109, nat_Of.R)] (orc_cons made_ok (orc_cons nat_Of.sound orc_nil)) Tryz.func108 (by kernel_rfl) (by kernel_rfl) fun us u hR => ⟨0, fun C E hC => by
 obtain ⟨v, h0, h1, rfl, hu⟩ := hR
 have hl : len v.natAbs ≤ 2 := len_le.2 (by omega)
 have k1 : ∀ r : Int, 0 ≤ r → (r = v ∨ r = -v) → C 109 [.v (.int .u64 r)] (.l (N v.natAbs)) := fun r g0 g1 => by
  have := hC 109 nat_Of.R (by simp) _ _ (nofR v.natAbs (by omega))
  rwa [show ((v.natAbs : Nat) : Int) = r by omega] at this
 have k2 := hC 132 madeR (by simp) _ _ ⟨decide (v < 0), N v.natAbs, N_limbs _, by rw [cnt_N]; omega, rfl, rfl⟩
 rw [show Z (decide (v < 0)) (N v.natAbs) = v from Z_I v, ← hu] at k2
 obtain ⟨s4, l4, hu'⟩ : ∃ s l, u = .agg [ub s, .l l] := ⟨_, _, hu⟩
 rw [hu'] at k2
 generalize N v.natAbs = l at *
 by_cases h : v < 0
 ·rw [decide_eq_true h] at k2
  cbv
  refine tt ?_
  cbv
  refine wu fun r1 q1 => ?_
  cbv
  refine wu fun r2 q2 => ?_
  cbv
  refine cl ?_ (k1 r2 (by omega) (by omega))
  cbv
  (repeat ((refine cl ?_); cbv))
  exact hu'.symm
 ·rw [decide_eq_false h] at k2
  cbv
  refine ff ?_
  cbv
  refine wu fun r1 q1 => ?_
  cbv
  refine cl ?_ (k1 r1 (by omega) (by omega))
  cbv
  (repeat ((refine cl ?_); cbv))
  exact hu'.symm⟩
def uR (a : R3) : U := .agg [ub a.1, .l a.2.1, .l a.2.2]
def uR4 (a : R4) : U := .tup [.agg [ub a.1, .l a.2.1, .l a.2.2.1], ui a.2.2.2]
theorem tR {C : Orc} {n : Nat} {us : List U} {a : R3} (h : C n us (uR a)) : ∃ s l b, C n us (.agg [ub s, .l l, .l b]) ∧ (s, l, b) = a := ⟨_, _, _, h, rfl⟩
theorem tR4 {C : Orc} {n : Nat} {us : List U} {a : R4} (h : C n us (uR4 a)) : ∃ s l b e, C n us (.tup [.agg [ub s, .l l, .l b], ui e]) ∧ (s, l, b, e) = a := ⟨_, _, _, _, h, rfl⟩
theorem LR.c1 {a : R3} (h : LR a) : cnt a.2.1 ≤ 100000 := by have := h.lt; unfold cnt; omega
theorem LR.c2 {a : R3} (h : LR a) : cnt a.2.2 ≤ 100000 := by have := h.lb; unfold cnt; omega
def goodR (us : List U) (u : U) : Prop := ∃ a : R3, LB a ∧ us = [uR a] ∧ u = ub (goodB a)
theorem gcd_cmp (n : Nat) : (cmpN n 1 = 0) ↔ n = 1 := by
 unfold cmpN
 split
 ·omega
 ·split <;> omega
theorem good_ok : SoundF Tryz.prog 86 goodR := sound [(115, rat_trimmed.R), (117, quo_Gcd.R), (109, nat_Of.R), (116, nat_Cmp.R)] (orc_cons rat_trimmed.sound (orc_cons quo_Gcd.sound (orc_cons nat_Of.sound (orc_cons nat_Cmp.sound orc_nil)))) Tryz.func86 (by kernel_rfl) (by kernel_rfl) fun us u hR => ⟨0, fun C E hC => by
 obtain ⟨⟨s, l, b⟩, ⟨hl, hb, hsl, hsb⟩, rfl, hu⟩ := hR
 have hl : Limbs l := hl
 have hb : Limbs b := hb
 have k1 := hC 115 rat_trimmed.R (by simp) [.l l] _ ⟨_, _, rfl, trimmed_tells hl hsl, rfl⟩
 have k2 := hC 115 rat_trimmed.R (by simp) [.l b] _ ⟨_, _, rfl, trimmed_tells hb hsb, rfl⟩
 clear hsl hsb
 have g1 := cnt0 l
 have g2 := cnt0 b
 unfold goodB at hu
 dsimp only at hu
 have e1 : (decide (b.length ≠ 0)) = decide (cnt b ≠ 0) := by rw [decide_eq_decide]; unfold cnt; omega
 have e2 : (decide (b.length ≤ 64)) = decide (cnt b ≤ 64) := by rw [decide_eq_decide]; unfold cnt; omega
 have e3 : (decide (l.length ≤ 64)) = decide (cnt l ≤ 64) := by rw [decide_eq_decide]; unfold cnt; omega
 have e4 : (decide (l.length = 0)) = decide (cnt l = 0) := by rw [decide_eq_decide]; unfold cnt; omega
 rw [e1, e2, e3, e4] at hu
 clear e1 e2 e3 e4
 generalize decide (N (V l) = l) = t1 at *
 generalize decide (N (V b) = b) = t2 at *
 cases t1
 ·cbv; (repeat ((first | with_reducible refine bq ?_ | refine cl ?_); cbv)); rw [hu]; rfl
 cases t2
 ·cbv; (repeat ((first | with_reducible refine bq ?_ | refine cl ?_); cbv)); rw [hu]; rfl
 by_cases h3 : cnt b = 0
 ·cbv; (repeat ((first | refine ln fun _ _ _ => ?_ | refine tt ?_ | with_reducible refine bq ?_ | refine cl ?_); cbv)); rw [hu]; simp [h3]
 by_cases h4 : cnt b ≤ 64
 case neg => cbv; (repeat ((first | refine ln fun _ _ _ => ?_ | refine tt ?_ | refine ff ?_ | with_reducible refine bq ?_ | refine cl ?_); cbv)); rw [hu]; simp [h4]
 by_cases h5 : cnt l ≤ 64
 case neg => cbv; (repeat ((first | refine ln fun _ _ _ => ?_ | refine tt ?_ | refine ff ?_ | with_reducible refine bq ?_ | refine cl ?_); cbv)); rw [hu]; simp [h5]
 have k3 := hC 117 quo_Gcd.R (by simp) _ _ (gcdR hl hb (by omega) (by omega))
 have k4 := hC 109 nat_Of.R (by simp) _ _ (nofR 1 (by omega))
 have hg : len (Nat.gcd (V l) (V b)) ≤ 64 := by
  have a1 := lenV hl
  have a2 := lenV hb
  by_cases h : V b = 0
  ·rw [h, Nat.gcd_zero_right]; omega
  ·have := len_mono (Nat.gcd_le_right (V l) (n := V b) (by omega)); omega
 have h11 : len 1 ≤ 1 := len_le.2 (by omega)
 have k5 := hC 116 nat_Cmp.R (by simp) _ _ (ncmpR (N_limbs (Nat.gcd (V l) (V b))) (N_limbs 1) (by rw [cnt_N]; omega) (by rw [cnt_N]; omega))
 rw [V_N, V_N] at k5
 have hc := gcd_cmp (Nat.gcd (V l) (V b))
 generalize hd : cmpN (Nat.gcd (V l) (V b)) 1 = d at *
 rw [show decide (Nat.gcd (V l) (V b) = 1) = decide (d = 0) by rw [decide_eq_decide]; exact hc.symm] at hu
 clear hc hd hg
 generalize N (Nat.gcd (V l) (V b)) = l3 at *
 generalize N 1 = l4 at *
 have fin : ∀ t : Bool, (t = true ↔ d = 0) → decide (d = 0) = t := fun t ht => by cases t <;> simp at ht ⊢ <;> exact ht
 cases s
 ·by_cases hd : d = 0 <;> cbv <;> (repeat ((first | refine ln fun _ _ _ => ?_ | refine tt ?_ | refine ff ?_ | with_reducible refine bq ?_ | refine cl ?_); cbv)) <;> (rw [hu]; simp [h3, h4, h5, hd])
 ·by_cases h6 : cnt l = 0
  ·cbv; (repeat ((first | refine ln fun _ _ _ => ?_ | refine tt ?_ | refine ff ?_ | with_reducible refine bq ?_ | refine cl ?_); cbv)); rw [hu]; simp [h6]
  ·by_cases hd : d = 0 <;> cbv <;> (repeat ((first | refine ln fun _ _ _ => ?_ | refine tt ?_ | refine ff ?_ | with_reducible refine bq ?_ | refine cl ?_); cbv)) <;> (rw [hu]; simp [h3, h4, h5, h6, hd])⟩
def keepFrom (L : List Nat) : Nat → List U → List U
 | _, [] => []
 | i, u :: us => (if L.contains i then u else .lost) :: keepFrom L (i + 1) us
def keepT (L : List Nat) (a : List U) : List U := keepFrom L 0 a
def oldT (n : Nat) : U → Bool
 | .lost => true
 | .tup _ => false
 | .agg us => us.all (old1 n)
 | .clo _ us => us.all (old1 n)
 | u => old1 n u
def oldO (n : Nat) : Option Ob → Bool
 | some (.cells us) => us.all (oldT n)
 | _ => true
def okK (n : Nat) (L : List Nat) (a : List U) (h : Heap) : Bool := decide (n ≤ h.length) && (keepT L a).all (oldT n) && (h.take n).all (oldO n)
theorem wkU_old {n : Nat} {js : List Nat} (hj : ∀ i, i < n → js[i]? = some i) {u : U} (h : oldT n u = true) : wkU n js u u := by
 cases u with
 | tup us => cases h
 | lost => trivial
 | agg us => exact ⟨h, rfl⟩
 | clo f us => exact ⟨h, rfl⟩
 | ptr id off => exact ⟨id, hj _ (by simpa [oldT, old1] using h), rfl⟩
 | pe id k i off => exact ⟨id, hj _ (by simpa [oldT, old1] using h), rfl⟩
 | sl id l c k => exact ⟨id, hj _ (by simpa [oldT, old1] using h), rfl⟩
 | _ => rfl
theorem wkA_keep {n : Nat} {js : List Nat} (hj : ∀ i, i < n → js[i]? = some i) (L : List Nat) : ∀ (a : List U) (i : Nat), (keepFrom L i a).all (oldT n) = true → wkA n js a (keepFrom L i a)
 | [], _, _ => trivial
 | u :: us, i, h => by
  unfold keepFrom at h ⊢
  rw [List.all_cons, Bool.and_eq_true] at h
  refine ⟨?_, wkA_keep hj L us (i + 1) h.2⟩
  split
  ·rename_i hc
   rw [if_pos hc] at h
   exact wkU_old hj h.1
  ·trivial
theorem wkA_old {n : Nat} {js : List Nat} (hj : ∀ i, i < n → js[i]? = some i) : ∀ (us : List U), us.all (oldT n) = true → wkA n js us us
 | [], _ => trivial
 | u :: us, h => by
  rw [List.all_cons, Bool.and_eq_true] at h
  exact ⟨wkU_old hj h.1, wkA_old hj us h.2⟩
theorem wkH_take {n : Nat} {JS : List Nat} (hj : ∀ i, i < n → JS[i]? = some i) {h : Heap} : ∀ (m : Nat) (h1 h2 : Heap), h = h1 ++ h2 → n = h1.length + m → m ≤ h2.length → (h2.take m).all (oldO n) = true → wkH n JS h ((List.range' h1.length m)) (h2.take m)
 | 0, _, _, _, _, _, _ => by simp [wkH]
 | m + 1, h1, [], _, _, hl, _ => by simp at hl
 | m + 1, h1, o :: h2, e, en, hl, ho => by
  rw [List.take_succ_cons, List.all_cons, Bool.and_eq_true] at ho
  rw [List.take_succ_cons, List.range'_succ]
  refine ⟨?_, ?_⟩
  ·cases o with
   | none => trivial
   | some ob =>
    have ha : heapAt h h1.length = some ob := by unfold heapAt; rw [e]; simp
    cases ob with
    | cells us => exact ⟨us, ha, wkA_old hj us ho.1⟩
    | row k xs => exact ha
    | lim xs => exact ha
  ·have := wkH_take (n := n) hj (h := h) m (h1 ++ [o]) h2 (by rw [e]; simp) (by simp; omega) (by simpa using hl) ho.2
   simpa using this
theorem alive_sub : ∀ (js : List Nat) (os : Heap), (alive js os).Sublist js
 | [], _ => by simp [alive]
 | _ :: _, [] => by simp [alive]
 | j :: js, some o :: os => by simp only [alive]; exact (alive_sub js os).cons_cons j
 | j :: js, none :: os => by simp only [alive]; exact (alive_sub js os).cons j
theorem lets {n : Nat} {a : List U} {h : Heap} {k : List U → Heap → Prop} (L : List Nat) (hk : k (keepT L a) (h.take n)) (hc : okK n L a h = true := by rfl) : weak n a h k := by
 unfold okK at hc
 simp only [Bool.and_eq_true, decide_eq_true_eq] at hc
 obtain ⟨⟨h1, h2⟩, h3⟩ := hc
 have hjs : ∀ i, i < n → (List.range n)[i]? = some i := fun i hi => by simp [hi]
 refine ⟨⟨[], _, _, ⟨?_, ?_, ?_⟩, hk⟩⟩
 ·unfold keepsA
  simp [h1, (alive_sub (List.range n) (h.take n)).nodup List.nodup_range]
 ·rw [List.append_nil]
  exact wkA_keep hjs L a 0 h2
 ·rw [List.append_nil]
  have := wkH_take (JS := List.range n) hjs n [] h rfl (by simp) h1 h3
  simpa [← List.range_eq_range'] using this
theorem ents_nil : ∀ f fn, look2 f ([] : List (Nat × Func)) = some fn → Tryz.prog.funcs[f]? = some fn ∧ (fn.name == "runtime.NumGoroutine") = false ∧ fn.body.isSome = true := fun _ _ h => by cases h
theorem ents_cons {g : Nat} {gn : Func} {l : List (Nat × Func)} (h1 : Tryz.prog.funcs[g]? = some gn) (h2 : (gn.name == "runtime.NumGoroutine") = false) (h3 : gn.body.isSome = true) (hl : ∀ f fn, look2 f l = some fn → Tryz.prog.funcs[f]? = some fn ∧ (fn.name == "runtime.NumGoroutine") = false ∧ fn.body.isSome = true) :
  ∀ f fn, look2 f ((g, gn) :: l) = some fn → Tryz.prog.funcs[f]? = some fn ∧ (fn.name == "runtime.NumGoroutine") = false ∧ fn.body.isSome = true := fun f fn h => by
 unfold look2 at h
 split at h
 ·rename_i e
  injection h with h
  subst e h
  exact ⟨h1, h2, h3⟩
 ·exact hl f fn h
theorem nd_of {l : List (Nat × Func)} (h : (l.map (·.1)).Nodup) : ∀ f fn, (f, fn) ∈ l → look2 f l = some fn := by
 induction l with
 | nil => intro f fn h; cases h
 | cons x l ih =>
  obtain ⟨g, gn⟩ := x
  intro f fn hm
  rw [List.map_cons, List.nodup_cons] at h
  unfold look2
  rcases List.mem_cons.1 hm with e | hm
  ·injection e with e1 e2
   subst e1 e2
   rw [if_pos rfl]
  ·have : g ≠ f := fun e => h.1 (List.mem_map.2 ⟨(f, fn), hm, e.symm⟩)
   rw [if_neg this]
   exact ih h.2 f fn hm
structure Tm where
 k : Int
 a : Int
 b : Int
 n : Int
 q : R3
def qU (q : R3) : List U := [ub q.1, .l q.2.1, .l q.2.2]
def tU (t : Tm) : List U := [ui t.k, ui t.a, ui t.b, ui t.n, ub t.q.1, .l t.q.2.1, .l t.q.2.2]
def cU (c : List Tm) : U := .s 7 (c.map tU)
def qsU (qs : List R3) : U := .s 3 (qs.map qU)
def kid (x i : Int) : Bool := decide (0 ≤ x) && decide (x < i)
def noneB (s : Bool) (l b : List Int) : Bool := !s && decide (cnt l = 0) && decide (cnt b = 0)
def termOk (t : Tm) (i : Int) : Bool :=
 if t.k = 1 then decide (t.a = 0 ∧ t.b = 0 ∧ t.n = 0) && goodB t.q
 else noneB t.q.1 t.q.2.1 t.q.2.2 && (
  if t.k = 2 then decide (t.a = 0 ∧ t.b = 0) && decide (0 ≤ t.n)
  else if t.k = 7 then decide (t.b = 0 ∧ t.n = 0) && kid t.a i
  else if t.k = 8 then decide (t.b = 0) && kid t.a i && decide (-128 ≤ t.n) && decide (t.n ≤ 128)
  else if t.k = 3 ∨ t.k = 4 ∨ t.k = 5 ∨ t.k = 6 then decide (t.n = 0) && kid t.a i && kid t.b i
  else false)
def noneR (us : List U) (u : U) : Prop := ∃ s l b, us = [.agg [ub s, .l l, .l b]] ∧ u = ub (noneB s l b)
theorem none_ok : SoundF Tryz.prog 131 noneR := sound [] orc_nil Tryz.func131 (by kernel_rfl) (by kernel_rfl) fun us u hR => ⟨0, fun C E hC => by
 obtain ⟨s, l, b, rfl, hu⟩ := hR
 unfold noneB at hu
 cases s
 ·by_cases h1 : cnt l = 0
  ·by_cases h2 : cnt b = 0 <;> cbv <;> (repeat ((first | refine ln fun _ _ _ => ?_ | refine tt ?_ | refine ff ?_ | with_reducible refine bq ?_); cbv)) <;> (rw [hu]; simp [h1, h2])
  ·cbv; (repeat ((first | refine ln fun _ _ _ => ?_ | refine ff ?_ | with_reducible refine bq ?_); cbv)); rw [hu]; simp [h1]
 ·cbv; (repeat ((with_reducible refine bq ?_); cbv)); rw [hu]; simp⟩
theorem kin {C : Orc} {E E' : Ent} (hE : Enters 0 [130] C [(130, Tryz.f130)] E E') {x i : Int} {b : Bool} (hb : kid x i = b) {o : Option Ob} {h : Heap} {k : U → Heap → Prop} (hk : k (ub b) (o :: some (.cells [ui i]) :: h)) :
  E' 130 [ui x, .ptr 1 0] (o :: some (.cells [ui i]) :: h) k := by
 refine hE _ _ (List.mem_singleton.2 rfl) _ _ _ ?_
 unfold kid at hb
 by_cases h1 : 0 ≤ x
 ·by_cases h2 : x < i
  ·have : b = true := by rw [← hb]; simp [h1, h2]
   subst this
   cbv; (repeat ((refine tt ?_); cbv)); exact hk
  ·have : b = false := by rw [← hb]; simp [h2]
   subst this
   cbv; (repeat ((first | refine tt ?_ | refine ff ?_); cbv)); exact hk
 ·have : b = false := by rw [← hb]; simp [h1]
  subst this
  cbv; (repeat ((refine ff ?_); cbv)); exact hk
def tgoodR (us : List U) (u : U) : Prop := ∃ t i, LB t.q ∧ us = [.agg (tU t), ui i] ∧ u = ub (termOk t i)
theorem tgood_ok : SoundF Tryz.prog 104 tgoodR := sound3 [(86, goodR), (131, noneR)] [(130, Tryz.f130)] (orc_cons good_ok (orc_cons none_ok orc_nil)) (ents_cons Tryz.func130 (by kernel_rfl) (by kernel_rfl) ents_nil) (nd_of (by simp)) Tryz.func104 (by kernel_rfl) (by kernel_rfl) fun us u hR => ⟨0, fun C E0 E1 E2 E hC hE1 hE2 hE => by
 obtain ⟨⟨k, a, b, n, s, l, d⟩, i, hq, rfl, hu⟩ := hR
 have k1 := hC 86 goodR (by simp) _ _ ⟨_, hq, rfl, rfl⟩
 have k2 := hC 131 noneR (by simp) _ _ ⟨s, l, d, rfl, rfl⟩
 clear hq hE1 hE2
 have hE : Enters 0 [130] C [(130, Tryz.f130)] E2 E := hE
 unfold termOk at hu
 dsimp only at hu k1
 generalize goodB (s, l, d) = g at hu k1
 generalize noneB s l d = w at hu k2
 cbv
 rcases Decidable.em (k = 1) with h1 | h1
 ·rw [if_pos h1] at hu
  rcases Decidable.em (a = 0 ∧ b = 0 ∧ n = 0) with h2 | h2
  ·rw [decide_eq_true h2, Bool.true_and] at hu
   (repeat ((first | refine tt ?_ | refine cl ?_ | refine tt ?_ (by and_intros <;> first | omega | exact True.intro)); cbv)); exact hu.symm
  ·rw [decide_eq_false h2, Bool.false_and] at hu
   (repeat ((first | refine tt ?_ | refine ff ?_); cbv)); exact hu.symm
 rw [if_neg h1] at hu
 cases w
 ·rw [Bool.false_and] at hu
  (repeat ((first | refine ff ?_ | with_reducible refine bq ?_ | refine cl ?_); cbv)); exact hu.symm
 rw [Bool.true_and] at hu
 rcases Decidable.em (k = 2) with h2 | h2
 ·rw [if_pos h2] at hu
  rcases Decidable.em (a = 0 ∧ b = 0) with h3 | h3
  ·rcases Decidable.em (0 ≤ n) with h4 | h4
   ·rw [decide_eq_true h3, decide_eq_true h4] at hu
    (repeat ((first | refine tt ?_ | refine ff ?_ | with_reducible refine bq ?_ | refine cl ?_ | refine tt ?_ (by and_intros <;> first | omega | exact True.intro)); cbv)); exact hu.symm
   ·rw [decide_eq_true h3, decide_eq_false h4] at hu
    (repeat ((first | refine tt ?_ | refine ff ?_ | with_reducible refine bq ?_ | refine cl ?_ | refine tt ?_ (by and_intros <;> first | omega | exact True.intro)); cbv)); exact hu.symm
  ·rw [decide_eq_false h3, Bool.false_and] at hu
   (repeat ((first | refine tt ?_ | refine ff ?_ | with_reducible refine bq ?_ | refine cl ?_); cbv)); exact hu.symm
 rw [if_neg h2] at hu
 generalize ha : kid a i = ka at hu
 generalize hb : kid b i = kb at hu
 rcases Decidable.em (k = 7) with h7 | h7
 ·rw [if_pos h7] at hu
  rcases Decidable.em (b = 0 ∧ n = 0) with h3 | h3
  ·rw [decide_eq_true h3, Bool.true_and] at hu
   (repeat ((first | refine tt ?_ | refine ff ?_ | with_reducible refine bq ?_ | refine cl ?_ | refine tt ?_ (by and_intros <;> first | omega | exact True.intro)); cbv)); refine kin hE ha ?_; cbv; (repeat ((first | refine ln fun _ _ _ => ?_ | refine tt ?_ | refine ff ?_ | refine wr fun _ _ => ?_ | refine rp fun _ _ _ => ?_ | with_reducible refine bq ?_ | refine cl ?_ | refine sd ?_ | refine tt ?_ (by and_intros <;> omega) | refine ff ?_ (by simp; omega) | intro _ _); cbv)); exact hu.symm
  ·rw [decide_eq_false h3, Bool.false_and] at hu
   (repeat ((first | refine tt ?_ | refine ff ?_ | with_reducible refine bq ?_ | refine cl ?_); cbv)); exact hu.symm
 rw [if_neg h7] at hu
 rcases Decidable.em (k = 8) with h8 | h8
 ·rw [if_pos h8] at hu
  rcases Decidable.em (b = 0) with h3 | h3
  ·rw [decide_eq_true h3, Bool.true_and] at hu
   cases ka
   ·rw [Bool.false_and, Bool.false_and] at hu
    (repeat ((first | refine tt ?_ | refine ff ?_ | with_reducible refine bq ?_ | refine cl ?_ | refine tt ?_ (by and_intros <;> first | omega | exact True.intro)); cbv)); refine kin hE ha ?_; cbv; (repeat ((first | refine ln fun _ _ _ => ?_ | refine tt ?_ | refine ff ?_ | refine wr fun _ _ => ?_ | refine rp fun _ _ _ => ?_ | with_reducible refine bq ?_ | refine cl ?_ | refine sd ?_ | refine tt ?_ (by and_intros <;> omega) | refine ff ?_ (by simp; omega) | intro _ _); cbv)); exact hu.symm
   ·rcases Decidable.em (-128 ≤ n) with h4 | h4
    ·rcases Decidable.em (n ≤ 128) with h5 | h5
     ·rw [decide_eq_true h4, decide_eq_true h5] at hu
      (repeat ((first | refine tt ?_ | refine ff ?_ | with_reducible refine bq ?_ | refine cl ?_ | refine tt ?_ (by and_intros <;> first | omega | exact True.intro)); cbv)); refine kin hE ha ?_; cbv; (repeat ((refine tt ?_); cbv)); exact hu.symm
     ·rw [decide_eq_true h4, decide_eq_false h5] at hu
      (repeat ((first | refine tt ?_ | refine ff ?_ | with_reducible refine bq ?_ | refine cl ?_ | refine tt ?_ (by and_intros <;> first | omega | exact True.intro)); cbv)); refine kin hE ha ?_; cbv; (repeat ((first | refine tt ?_ | refine ff ?_); cbv)); exact hu.symm
    ·rw [decide_eq_false h4, Bool.true_and, Bool.false_and] at hu
     (repeat ((first | refine tt ?_ | refine ff ?_ | with_reducible refine bq ?_ | refine cl ?_ | refine tt ?_ (by and_intros <;> first | omega | exact True.intro)); cbv)); refine kin hE ha ?_; cbv; (repeat ((refine ff ?_); cbv)); exact hu.symm
  ·rw [decide_eq_false h3, Bool.false_and, Bool.false_and, Bool.false_and] at hu
   (repeat ((first | refine tt ?_ | refine ff ?_ | with_reducible refine bq ?_ | refine cl ?_); cbv)); exact hu.symm
 rw [if_neg h8] at hu
 rcases Decidable.em (k = 3 ∨ k = 4 ∨ k = 5 ∨ k = 6) with h9 | h9
 ·rw [if_pos h9] at hu
  rcases Decidable.em (n = 0) with h3 | h3
  ·rw [decide_eq_true h3, Bool.true_and] at hu
   cases ka
   ·rw [Bool.false_and] at hu
    rcases h9 with h9 | h9 | h9 | h9 <;> ((repeat ((first | refine tt ?_ | refine ff ?_ | with_reducible refine bq ?_ | refine cl ?_); cbv)); refine kin hE ha ?_; cbv; (repeat ((first | refine ln fun _ _ _ => ?_ | refine tt ?_ | refine ff ?_ | refine wr fun _ _ => ?_ | refine rp fun _ _ _ => ?_ | with_reducible refine bq ?_ | refine cl ?_ | refine sd ?_ | refine tt ?_ (by and_intros <;> omega) | refine ff ?_ (by simp; omega) | intro _ _); cbv)); exact hu.symm)
   ·rw [Bool.true_and] at hu
    rcases h9 with h9 | h9 | h9 | h9 <;> ((repeat ((first | refine tt ?_ | refine ff ?_ | with_reducible refine bq ?_ | refine cl ?_); cbv)); refine kin hE ha ?_; cbv; (repeat ((first | refine ln fun _ _ _ => ?_ | refine tt ?_ | refine ff ?_ | refine wr fun _ _ => ?_ | refine rp fun _ _ _ => ?_ | with_reducible refine bq ?_ | refine cl ?_ | refine sd ?_ | refine tt ?_ (by and_intros <;> omega) | refine ff ?_ (by simp; omega) | intro _ _); cbv)); refine kin hE hb ?_; cbv; (repeat ((first | refine ln fun _ _ _ => ?_ | refine tt ?_ | refine ff ?_ | refine wr fun _ _ => ?_ | refine rp fun _ _ _ => ?_ | with_reducible refine bq ?_ | refine cl ?_ | refine sd ?_ | refine tt ?_ (by and_intros <;> omega) | refine ff ?_ (by simp; omega) | intro _ _); cbv)); exact hu.symm)
  ·rw [decide_eq_false h3, Bool.false_and, Bool.false_and] at hu
   rcases h9 with h9 | h9 | h9 | h9 <;> ((repeat ((first | refine tt ?_ | refine ff ?_ | with_reducible refine bq ?_ | refine cl ?_); cbv)); exact hu.symm)
 ·rw [if_neg h9] at hu
  (repeat ((first | refine ff ?_ | with_reducible refine bq ?_ | refine cl ?_); cbv)); exact hu.symm⟩
def goodC (c : List Tm) : Bool := (List.range c.length).all fun i => match c[i]? with
 | some t => termOk t i
 | none => true
theorem goodC_iff {c : List Tm} : goodC c = true ↔ ∀ (i : Nat) t, c[i]? = some t → termOk t i = true := by
 unfold goodC
 rw [List.all_eq_true]
 constructor
 ·intro h i t ht
  have := h i (List.mem_range.2 (List.getElem?_eq_some_iff.1 ht).1)
  rw [ht] at this
  exact this
 ·intro h i hi
  cases ht : c[i]? with
  | none => rfl
  | some t => exact h i t ht
theorem nth_map {α : Type} {c : List α} (f : α → List U) {i : Int} (h0 : 0 ≤ i) (h1 : i < cnt c) : ∃ t, c[i.toNat]? = some t ∧ (c.map f)[i.toNat]? = some (f t) := by
 unfold cnt at h1
 refine ⟨c[i.toNat]'(by omega), by simp, ?_⟩
 rw [List.getElem?_map, List.getElem?_eq_getElem (by omega)]
 rfl
theorem cnt_map {α : Type} (c : List α) (f : α → List U) : cnt (c.map f) = cnt c := by unfold cnt; rw [List.length_map]
def cgoodR (us : List U) (u : U) : Prop := ∃ c, (∀ t ∈ c, LB t.q) ∧ cnt c ≤ 9223372036854775807 ∧ us = [cU c] ∧ u = ub (goodC c)
theorem cgood_ok : SoundF Tryz.prog 67 cgoodR := sound [(104, tgoodR)] (orc_cons tgood_ok orc_nil) Tryz.func67 (by kernel_rfl) (by kernel_rfl) fun us u hR => by
 obtain ⟨c, hq, hn, rfl, hu⟩ := hR
 obtain ⟨r, hr⟩ : ∃ r, (cnt c).toNat < r := ⟨_, Nat.lt_succ_self _⟩
 refine ⟨r, fun C E hC => ?_⟩
 have kt : ∀ i t, 0 ≤ i → c[i.toNat]? = some t → C 104 [.agg (tU t), ui i] (ub (termOk t i)) := fun i t h0 ht => hC 104 tgoodR (by simp) _ _ ⟨t, i, hq t (List.mem_of_getElem? ht), rfl, rfl⟩
 have hm := fun i (h0 : 0 ≤ i) (h1 : i < cnt c) => nth_map (c := c) tU h0 h1
 have hc := cnt_map c tU
 have hc0 := cnt0 c
 unfold cU
 generalize c.map tU = xs at *
 cbv
 (repeat (((refine ln fun _ _ _ => ?_)); cbv))
 rename_i n hn1 hn0
 refine lets [0, 2, 5, 6, 7] ?_
 cbv
 refine loop_inv (fun j a h => ∃ i : Int, 0 ≤ i ∧ i ≤ cnt c ∧ j = (cnt c - i).toNat ∧ (∀ (x : Nat) t, (x : Int) < i → c[x]? = some t → termOk t x = true) ∧ a = [.s 7 xs, .lost, ub false, .lost, .lost, .s 7 xs, ui n, ui i, .lost, .lost, .lost, .lost, .lost, .lost, .lost, .lost, .lost] ∧ h = []) ?_ r (cnt c).toNat _ _ hr ⟨0, by omega, by omega, by omega, fun x t hx _ => absurd hx (by omega), rfl, rfl⟩
 rintro j a h K ⟨i, h0, h1, hj, hg, rfl, rfl⟩ hK
 rcases Decidable.em (i < cnt c) with hlt | hlt
 ·obtain ⟨t, ht, hx⟩ := hm i h0 hlt
  have k1 := kt i t h0 ht
  have hg' : termOk t i = true → ∀ (x : Nat) t, (x : Int) < i + 1 → c[x]? = some t → termOk t x = true := fun hb x t' hlx hx' => by
   by_cases e : (x : Int) = i
   ·have : x = i.toNat := by omega
    rw [this, ht] at hx'
    injection hx' with hx'
    rw [← hx', e]
    exact hb
   ·exact hg x t' (by omega) hx'
  have hg2 : termOk t i = false → goodC c = false := fun hb => by
   rw [Bool.eq_false_iff]
   intro hh
   have := goodC_iff.1 hh i.toNat t ht
   rw [show ((i.toNat : Nat) : Int) = i by omega] at this
   rw [this] at hb
   cases hb
  generalize termOk t i = g at *
  obtain ⟨k, a, b, m, s, l, d⟩ := t
  cases g
  ·rw [hg2 rfl] at hu
   clear hg' hg2 hg
   cbv
   (repeat ((refine tt ?_); cbv))
   refine el ?_ (by omega) hx
   cbv
   (repeat ((first | with_reducible refine bq ?_ | refine cl ?_); cbv))
   exact hu.symm
  ·cbv
   (repeat ((refine tt ?_); cbv))
   refine el ?_ (by omega) hx
   cbv
   (repeat ((first | refine wr fun _ _ => ?_ | with_reducible refine bq ?_ | refine cl ?_); cbv))
   rename_i r1 e1
   refine lets [0, 2, 5, 6, 7] ?_
   exact hK (cnt c - (i + 1)).toNat _ _ (by omega) ⟨i + 1, by omega, by omega, rfl, hg' rfl, by rw [e1]; rfl, rfl⟩
 ·rw [goodC_iff.2 fun x t hx => hg x t (by have := (List.getElem?_eq_some_iff.1 hx).1; unfold cnt at h1 hlt; omega) hx] at hu
  clear hg
  cbv
  (repeat ((refine ff ?_); cbv))
  exact hu.symm
def kids (t : Tm) : List Int := if t.k = 7 ∨ t.k = 8 then [t.a] else if t.k = 3 ∨ t.k = 4 ∨ t.k = 5 ∨ t.k = 6 then [t.a, t.b] else []
def kidsU (t : Tm) : U := if kids t = [] then nilU else .s 1 ((kids t).map fun x => [ui x])
def kidsR (us : List U) (u : U) : Prop := ∃ t, us = [.agg (tU t)] ∧ u = kidsU t
theorem kids_ok : SoundF Tryz.prog 68 kidsR := sound [] orc_nil Tryz.func68 (by kernel_rfl) (by kernel_rfl) fun us u hR => ⟨0, fun C E hC => by
 obtain ⟨⟨k, a, b, n, s, l, d⟩, rfl, hu⟩ := hR
 unfold kidsU kids at hu
 dsimp only at hu
 cbv
 rcases Decidable.em (k = 7 ∨ k = 8) with h | h
 ·rw [if_pos h] at hu
  rcases h with h | h <;> ((repeat ((first | refine tt ?_ | refine ff ?_); cbv)); exact hu.symm)
 rw [if_neg h] at hu
 rcases Decidable.em (k = 3 ∨ k = 4 ∨ k = 5 ∨ k = 6) with h2 | h2
 ·rw [if_pos h2] at hu
  rcases h2 with h2 | h2 | h2 | h2 <;> ((repeat ((first | refine tt ?_ | refine ff ?_); cbv)); exact hu.symm)
 ·rw [if_neg h2] at hu
  (repeat ((refine ff ?_); cbv)); exact hu.symm⟩
def uB (s : List Bool) : Rows := s.map fun b => [ub b]
def mark (s : List Bool) (ks : List Int) : List Bool := ks.foldl (fun s k => s.set k.toNat true) s
def kidsAt (c : List Tm) (j : Nat) : List Int := match c[j]? with
 | some t => kids t
 | none => []
def down (c : List Tm) : Nat → List Bool → List Bool
 | 0, s => s
 | j + 1, s => down c j (if s[j]? = some true then mark s (kidsAt c j) else s)
def needs (c : List Tm) (i : Nat) : List Bool := down c (i + 1) ((List.replicate c.length false).set i true)
def mayC (c : List Tm) (i : Int) : Bool := decide (0 ≤ i) && decide (i < cnt c) && goodC c
def needsU (c : List Tm) (i : Int) : U := if mayC c i = true then .s 1 (uB (needs c i.toNat)) else nilU
theorem mark_len : ∀ (ks : List Int) (s : List Bool), (mark s ks).length = s.length
 | [], _ => rfl
 | k :: ks, s => by
  show (mark (s.set k.toNat true) ks).length = s.length
  rw [mark_len ks, List.length_set]
theorem down_len (c : List Tm) : ∀ (j : Nat) (s : List Bool), (down c j s).length = s.length
 | 0, _ => rfl
 | j + 1, s => by
  unfold down
  rw [down_len c j]
  split
  ·exact mark_len _ _
  ·rfl
def nilEq (a b : U) : Prop := a = b ∨ (a = nilU ∧ ∃ k, b = .s k [])
def nilEqs : List U → List U → Prop
 | [], [] => True
 | a :: r, b :: q => nilEq a b ∧ nilEqs r q
 | _, _ => False
theorem nilEq_rep {ok : Nat → Prop} {W : World} {m : Map} {a b : U} {v : Value} (h : nilEq a b) (hr : Rep ok W m a v) : Rep ok W m b v := by
 rcases h with rfl | ⟨rfl, k, rfl⟩
 ·exact hr
 ·refine ⟨none, 0, hr, Nat.le_refl _, .inl rfl⟩
theorem nilEqs_reps {ok : Nat → Prop} {W : World} {m : Map} : ∀ {us ws : List U} {vs : List Value}, nilEqs us ws → Reps ok W m us vs → Reps ok W m ws vs
 | [], [], [], _, _ => trivial
 | [], [], _ :: _, _, hr => hr.elim
 | a :: r, b :: q, v :: vs, h, hr => ⟨nilEq_rep h.1 hr.1, nilEqs_reps h.2 hr.2⟩
 | _ :: _, _ :: _, [], _, hr => hr.elim
 | [], _ :: _, _, h, _ => h.elim
 | _ :: _, [], _, h, _ => h.elim
theorem relax {P : Program} {f : FuncId} {R R' : List U → U → Prop} (hs : SoundF P f R) (h : ∀ us u, R' us u → ∃ us' u', R us' u' ∧ nilEqs us us' ∧ nilEq u' u) : SoundF P f R' := fun us u hR => by
 obtain ⟨us', u', h1, h2, h3⟩ := h us u hR
 obtain ⟨hb, hc⟩ := hs us' u' h1
 refine ⟨hb, fun W S cs hr => ?_⟩
 exact (hc W S cs (nilEqs_reps h2 hr)).mono fun e W' ⟨v, e1, e2, e3⟩ => ⟨v, e1, nilEq_rep h3 e2, e3⟩
theorem eqs_refl : ∀ us : List U, nilEqs us us
 | [] => trivial
 | u :: us => ⟨.inl rfl, eqs_refl us⟩
def kidsR' (us : List U) (u : U) : Prop := ∃ t, us = [.agg (tU t)] ∧ u = .s 1 ((kids t).map fun x => [ui x])
theorem kids_ok' : SoundF Tryz.prog 68 kidsR' := relax kids_ok fun us u ⟨t, h1, h2⟩ => by
 refine ⟨us, _, ⟨t, h1, rfl⟩, eqs_refl _, ?_⟩
 rw [h2]
 unfold kidsU
 split
 ·rename_i h
  rw [h]
  exact .inr ⟨rfl, 1, rfl⟩
 ·exact .inl rfl
theorem kids_in {t : Tm} {i : Int} (h : termOk t i = true) : ∀ k ∈ kids t, 0 ≤ k ∧ k < i := by
 unfold termOk noneB kid at h
 unfold kids
 intro k hk
 split at hk
 ·rename_i h7
  have e1 : ¬ t.k = 1 := by omega
  have e2 : ¬ t.k = 2 := by omega
  rw [if_neg e1, if_neg e2] at h
  rw [List.mem_singleton] at hk
  subst hk
  rcases h7 with h7 | h7
  ·rw [if_pos h7] at h
   simp at h
   omega
  ·rw [if_neg (by omega), if_pos h7] at h
   simp at h
   omega
 ·split at hk
  ·rename_i h7 h3
   rw [if_neg (by omega), if_neg (by omega), if_neg (by omega), if_neg (by omega), if_pos h3] at h
   simp at h
   rcases List.mem_cons.1 hk with rfl | hk
   ·omega
   ·rw [List.mem_singleton.1 hk]
    omega
  ·cases hk
def to4 (a : R3) : R4 := (a.1, a.2.1, a.2.2, 0)
def to3 (a : R4) : R3 := (a.1, a.2.1, a.2.2.1)
def ownS (a : R3) : R3 := negS (negS a)
def at3 (l : List R3) (i : Int) : R3 := (l[i.toNat]?).getD none3
def evT (vs xs : List R3) (t : Tm) : R4 :=
 if t.k = 1 then to4 (ownS t.q)
 else if t.k = 2 then to4 (ownS (at3 xs t.n))
 else if t.k = 3 then addS (at3 vs t.a) (at3 vs t.b)
 else if t.k = 4 then subS (at3 vs t.a) (at3 vs t.b)
 else if t.k = 5 then mulS (at3 vs t.a) (at3 vs t.b)
 else if t.k = 6 then divS (at3 vs t.a) (at3 vs t.b)
 else if t.k = 7 then to4 (negS (at3 vs t.a))
 else powS (at3 vs t.a) t.n
def evStep (c : List Tm) (xs : List R3) (nd : List Bool) (i : Nat) (p : List R3 × Int) : List R3 × Int :=
 if nd[i]? = some true then (match c[i]? with
  | some t => if (evT p.1 xs t).2.2.2 = 0 then (p.1.set i (to3 (evT p.1 xs t)), 0) else (p.1, (evT p.1 xs t).2.2.2)
  | none => p) else p
def evN (c : List Tm) (xs : List R3) (nd : List Bool) : Nat → List R3 × Int
 | 0 => (List.replicate c.length none3, 0)
 | i + 1 => if (evN c xs nd i).2 = 0 then evStep c xs nd i (evN c xs nd i) else evN c xs nd i
def refsB (c : List Tm) (nd : List Bool) (n : Int) : Bool := (List.range c.length).all fun j => match c[j]? with
 | some t => !(nd[j]? == some true && decide (t.k = 2) && decide (n ≤ t.n))
 | none => true
def madeB (c : List Tm) (i : Int) (xs : List R3) : Bool := mayC c i && xs.all goodB && refsB c (needs c i.toNat) (cnt xs)
def ofS (c : List Tm) (i : Int) (xs : List R3) : R4 :=
 if madeB c i xs = true then (if (evN c xs (needs c i.toNat) (i.toNat + 1)).2 = 0 then to4 (at3 (evN c xs (needs c i.toNat) (i.toNat + 1)).1 i) else bad (evN c xs (needs c i.toNat) (i.toNat + 1)).2) else bad 1
theorem evStep_len (c : List Tm) (xs : List R3) (nd : List Bool) (i : Nat) (p : List R3 × Int) : (evStep c xs nd i p).1.length = p.1.length := by
 unfold evStep
 split
 ·split
  ·split
   ·exact List.length_set
   ·rfl
  ·rfl
 ·rfl
theorem evN_len (c : List Tm) (xs : List R3) (nd : List Bool) : ∀ i, (evN c xs nd i).1.length = c.length
 | 0 => List.length_replicate
 | i + 1 => by
  unfold evN
  split
  ·rw [evStep_len, evN_len]
  ·exact evN_len c xs nd i
theorem evN_stop {c : List Tm} {xs : List R3} {nd : List Bool} {i : Nat} (h : (evN c xs nd i).2 ≠ 0) : ∀ j, evN c xs nd (i + j) = evN c xs nd i
 | 0 => rfl
 | j + 1 => by
  have e := evN_stop h j
  show evN c xs nd (i + j + 1) = _
  rw [evN, e, if_neg h]
theorem own_good {a : R3} (h : goodB a = true) : ownS a = a := by
 obtain ⟨q, hq, rfl⟩ := good_iff.1 h
 unfold ownS negS
 rw [if_pos h, qOf_ratOf, if_pos (good_ratOf ((fits_neg q).trans hq)), qOf_ratOf, Rat.neg_neg]
theorem LB_none : LB none3 := ⟨Limbs.nil, Limbs.nil, by decide, by decide⟩
theorem LB_lim (q : Rat) : LB (to3 (lim q)) := by
 unfold lim
 split
 ·rename_i h
  exact (LR_ratOf h).wide
 ·exact LB_none
theorem LB_neg (a : R3) : LB (negS a) := LR_neg.wide
theorem LB_bad (e : Int) : LB (to3 (bad e)) := LB_none
theorem LB_add (a b : R3) : LB (to3 (addS a b)) := by unfold addS; split; exact LB_lim _; exact LB_bad _
theorem LB_sub (a b : R3) : LB (to3 (subS a b)) := by unfold subS; split; exact LB_lim _; exact LB_bad _
theorem LB_mul (a b : R3) : LB (to3 (mulS a b)) := by unfold mulS; split; exact LB_lim _; exact LB_bad _
theorem LB_div (a b : R3) : LB (to3 (divS a b)) := by
 unfold divS
 split
 ·split
  ·exact LB_bad _
  ·exact LB_lim _
 ·exact LB_bad _
theorem LB_pow (a : R3) (n : Int) : LB (to3 (powS a n)) := by
 unfold powS
 split
 ·split
  ·split
   ·exact LB_bad _
   ·exact LB_lim _
  ·exact LB_bad _
 ·exact LB_bad _
theorem LB_ev (vs xs : List R3) (t : Tm) : LB (to3 (evT vs xs t)) := by
 unfold evT
 repeat' split
 ·exact LB_neg _
 ·exact LB_neg _
 ·exact LB_add _ _
 ·exact LB_sub _ _
 ·exact LB_mul _ _
 ·exact LB_div _ _
 ·exact LB_neg _
 ·exact LB_pow _ _
theorem LB_evN (c : List Tm) (xs : List R3) (nd : List Bool) : ∀ i, ∀ a ∈ (evN c xs nd i).1, LB a
 | 0, a, h => by
  rw [(List.mem_replicate.1 h).2]
  exact LB_none
 | i + 1, a, h => by
  unfold evN at h
  split at h
  ·unfold evStep at h
   split at h
   ·split at h
    ·split at h
     ·rcases List.mem_or_eq_of_mem_set h with h | h
      ·exact LB_evN c xs nd i a h
      ·rw [h]
       exact LB_ev _ _ _
     ·exact LB_evN c xs nd i a h
    ·exact LB_evN c xs nd i a h
   ·exact LB_evN c xs nd i a h
  ·exact LB_evN c xs nd i a h
theorem uB_len (s : List Bool) : cnt (uB s) = cnt s := by unfold cnt uB; rw [List.length_map]
theorem uB_nth {s : List Bool} {k : Int} (h0 : 0 ≤ k) (h1 : k < cnt s) : ∃ b, s[k.toNat]? = some b ∧ (uB s)[k.toNat]? = some [ub b] := by
 unfold cnt at h1
 refine ⟨s[k.toNat]'(by omega), by simp, ?_⟩
 unfold uB
 rw [List.getElem?_map, List.getElem?_eq_getElem (by omega)]
 rfl
theorem uB_set (s : List Bool) (k : Nat) (b : Bool) : (uB s).set k [ub b] = uB (s.set k b) := by unfold uB; rw [List.map_set]
theorem mark_next {s : List Bool} {ks : List Int} {m : Int} {x : Int} (h0 : 0 ≤ m) (hx : ks[m.toNat]? = some x) : (mark s (ks.take m.toNat)).set x.toNat true = mark s (ks.take (m + 1).toNat) := by
 rw [show (m + 1).toNat = m.toNat + 1 by omega, List.take_add_one, hx]
 unfold mark
 rw [List.foldl_append]
 rfl
theorem down_yes {c : List Tm} {s : List Bool} {k : Int} {t : Tm} (h0 : 0 ≤ k) (h : s[k.toNat]? = some true) (ht : c[k.toNat]? = some t) : down c (k + 1).toNat s = down c k.toNat (mark s (kids t)) := by
 rw [show (k + 1).toNat = k.toNat + 1 by omega]
 rw [down, if_pos h, kidsAt, ht]
theorem down_no {c : List Tm} {s : List Bool} {k : Int} (h0 : 0 ≤ k) (h : s[k.toNat]? = some false) : down c (k + 1).toNat s = down c k.toNat s := by
 rw [show (k + 1).toNat = k.toNat + 1 by omega]
 conv => lhs; unfold down
 rw [if_neg (by rw [h]; simp)]
def needsR (us : List U) (u : U) : Prop := ∃ c i, (∀ t ∈ c, LB t.q) ∧ cnt c ≤ 1000000 ∧ us = [cU c, ui i] ∧ u = needsU c i
theorem needs_ok : SoundF Tryz.prog 35 needsR := sound [(67, cgoodR), (68, kidsR')] (orc_cons cgood_ok (orc_cons kids_ok' orc_nil)) Tryz.func35 (by kernel_rfl) (by kernel_rfl) fun us u hR => by
 obtain ⟨c, i, hq, hn, rfl, hu⟩ := hR
 obtain ⟨r, hr⟩ : ∃ r, (cnt c).toNat + 10 < r := ⟨_, Nat.lt_succ_self _⟩
 refine ⟨r, fun C E hC => ?_⟩
 have kg := hC 67 cgoodR (by simp) _ _ ⟨c, hq, by omega, rfl, rfl⟩
 have kt : ∀ t, C 68 [.agg (tU t)] (.s 1 ((kids t).map fun x => [ui x])) := fun t => hC 68 kidsR' (by simp) _ _ ⟨t, rfl, rfl⟩
 have hm := fun i (h0 : 0 ≤ i) (h1 : i < cnt c) => nth_map (c := c) tU h0 h1
 have hc := cnt_map c tU
 have hc0 := cnt0 c
 unfold needsU mayC at hu
 have hgood : goodC c = true → ∀ (k : Int) t, 0 ≤ k → c[k.toNat]? = some t → ∀ x ∈ kids t, 0 ≤ x ∧ x < k := fun h k t h0 ht x hx => by
  have := kids_in (goodC_iff.1 h k.toNat t ht) x hx
  omega
 clear hC hq
 unfold cU at kg ⊢
 obtain ⟨uB, huB⟩ : ∃ f : List Bool → Rows, f = Rd.uB := ⟨_, rfl⟩
 have uB_len : ∀ s, cnt (uB s) = cnt s := fun s => by rw [huB]; exact Rd.uB_len s
 have uB_nth : ∀ {s : List Bool} {k : Int}, 0 ≤ k → k < cnt s → ∃ b, s[k.toNat]? = some b ∧ (uB s)[k.toNat]? = some [ub b] := fun {s k} h0 h1 => by rw [huB]; exact Rd.uB_nth h0 h1
 have uB_set : ∀ (s : List Bool) (k : Nat) (b : Bool), (uB s).set k [ub b] = uB (s.set k b) := fun s k b => by rw [huB]; exact Rd.uB_set s k b
 rw [← huB] at hu
 generalize c.map tU = xs at *
 generalize goodC c = g at *
 cbv
 rcases Decidable.em (0 ≤ i) with h1 | h1
 case inr =>
  rw [decide_eq_false h1, Bool.false_and, Bool.false_and, if_neg (by simp)] at hu
  (repeat ((refine tt ?_); cbv)); exact hu.symm
 rcases Decidable.em (i < cnt c) with h2 | h2
 case inr =>
  rw [decide_eq_false h2, Bool.and_false, Bool.false_and, if_neg (by simp)] at hu
  (repeat ((first | refine ln fun _ _ _ => ?_ | refine tt ?_ | refine ff ?_); cbv)); exact hu.symm
 cases g
 ·rw [Bool.and_false, if_neg (by simp)] at hu
  (repeat ((first | refine ln fun _ _ _ => ?_ | refine ff ?_ | with_reducible refine bq ?_ | refine cl ?_); cbv)); exact hu.symm
 rw [decide_eq_true h1, decide_eq_true h2, Bool.true_and, Bool.true_and, if_pos rfl] at hu
 have hgood := hgood rfl
 (repeat ((first | refine ln fun _ _ _ => ?_ | refine ff ?_ | refine rp fun _ _ _ => ?_ | with_reducible refine bq ?_ | refine cl ?_ | refine sd ?_); cbv))
 rename_i n0 hn0 hn0' n hn hn' rs hrs hrc
 refine el (us := [ub false]) ?_ (by omega) (by rw [hrs, List.getElem?_replicate, if_pos (by omega)])
 cbv
 refine se fun ys e hyc => ?_
 have e2 : ys = uB ((List.replicate c.length false).set i.toNat true) := by
  rw [e, hrs, ← uB_set, huB]
  unfold Rd.uB
  rw [List.map_replicate]
  congr 2
  unfold cnt at hc hn
  omega
 have hnc : n = cnt c := by omega
 obtain ⟨s0, hs0⟩ : ∃ s0, s0 = (List.replicate c.length false).set i.toNat true := ⟨_, rfl⟩
 rw [← hs0] at e2
 clear e hrs hyc hrc
 subst e2
 cbv
 (repeat ((first | refine ln fun _ _ _ => ?_ | refine tt ?_ | refine ff ?_ | refine wr fun _ _ => ?_ | refine rp fun _ _ _ => ?_ | with_reducible refine bq ?_ | refine cl ?_ | refine sd ?_ | intro _ _); cbv))
 refine lets [0, 1, 4, 5, 6] ?_
 cbv
 refine loop_inv (fun j a h => ∃ (k : Int) (s : List Bool), -1 ≤ k ∧ k ≤ i ∧ j = (k + 1).toNat ∧ cnt s = cnt c ∧ down c (k + 1).toNat s = needs c i.toNat ∧ a = [.s 7 xs, ui i, .lost, .lost, nilU, .sl 0 n n 1, ui k, .lost, .lost, .lost, .lost, .lost, .lost, .lost, .lost, .lost, .lost, .lost, .lost, .lost, .lost, .lost, .lost, .lost, .lost, .lost, .lost, .lost, .lost, .lost, .lost, .lost, .lost, .lost, .lost, .lost, .lost, .lost, .lost, .lost, .lost, .lost, .lost, .lost, .lost, .lost, .lost, .lost, .lost, .lost, .lost, .lost, .lost] ∧ h = [some (.row 1 (uB s))]) ?_ r (i + 1).toNat _ _ (by omega) ⟨i, s0, by omega, by omega, rfl, by rw [hs0]; unfold cnt; rw [List.length_set, List.length_replicate], by rw [hs0, show (i + 1).toNat = i.toNat + 1 by omega]; rfl, rfl, rfl⟩
 rintro j a h K ⟨k, s, h3, h4, hj, hsc, hd, rfl, rfl⟩ hK
 rcases Decidable.em (0 ≤ k) with h5 | h5
 ·obtain ⟨b, hb, hx⟩ := uB_nth (s := s) h5 (by omega)
  cases b
  ·rw [down_no h5 hb] at hd
   cbv
   (repeat ((first | refine tt ?_ | refine sd ?_); cbv))
   refine el ?_ (by omega) hx
   cbv
   (repeat ((first | refine wr fun _ _ => ?_ | with_reducible refine bq ?_); cbv))
   rename_i k' hk'
   refine lets [0, 1, 4, 5, 6] ?_
   refine hK k.toNat _ _ (by omega) ⟨k - 1, s, by omega, by omega, by omega, hsc, ?_, by rw [hk']; rfl, rfl⟩
   rw [show k - 1 + 1 = k by omega]
   exact hd
  ·obtain ⟨t, ht, hx2⟩ := hm k h5 (by omega)
   rw [down_yes h5 hb ht] at hd
   have k1 := kt t
   have hk := hgood k t h5 ht
   have hms := mark_len
   have hkl : cnt (kids t) ≤ 2 := by
    unfold kids cnt
    split
    ·simp
    ·split <;> simp
   have hws := fun m (h0 : 0 ≤ m) (h1 : m < cnt (kids t)) => nth_map (c := kids t) (fun x => [ui x]) h0 h1
   have hwc := cnt_map (kids t) fun x => [ui x]
   have hkc := cnt0 (kids t)
   generalize kids t = ks at *
   generalize ks.map (fun x => [ui x]) = ws at *
   obtain ⟨tk, ta, tb, tn, ts, tl, td⟩ := t
   cbv
   (repeat ((first | refine tt ?_ | refine sd ?_); cbv))
   refine el ?_ (by omega) hx
   cbv
   (repeat ((with_reducible refine bq ?_); cbv))
   refine el ?_ (by omega) hx2
   cbv
   (repeat ((first | refine ln fun _ _ _ => ?_ | refine cl ?_); cbv))
   rename_i nk hnk hnk'
   refine lets [0, 1, 4, 5, 6, 42, 43, 44] ?_
   cbv
   refine loop_inv (fun j a h => ∃ m : Int, 0 ≤ m ∧ m ≤ cnt ks ∧ j = (cnt ks - m).toNat ∧ a = [.s 7 xs, ui i, .lost, .lost, nilU, .sl 0 n n 1, ui k, .lost, .lost, .lost, .lost, .lost, .lost, .lost, .lost, .lost, .lost, .lost, .lost, .lost, .lost, .lost, .lost, .lost, .lost, .lost, .lost, .lost, .lost, .lost, .lost, .lost, .lost, .lost, .lost, .lost, .lost, .lost, .lost, .lost, .lost, .lost, .s 1 ws, ui nk, ui m, .lost, .lost, .lost, .lost, .lost, .lost, .lost, .lost] ∧ h = [some (.row 1 (uB (mark s (ks.take m.toNat))))]) ?_ r (cnt ks).toNat _ _ (by omega) ⟨0, by omega, by omega, by omega, rfl, rfl⟩
   rintro j2 a h K2 ⟨m, m0, m1, hj2, rfl, rfl⟩ hK2
   rcases Decidable.em (m < cnt ks) with h6 | h6
   ·obtain ⟨x, hx3, hx4⟩ := hws m m0 h6
    have hxk := hk x (List.mem_of_getElem? hx3)
    have hsc2 : cnt (mark s (ks.take m.toNat)) = cnt s := by unfold cnt; rw [mark_len]
    obtain ⟨b, hb2, hx5⟩ := uB_nth (s := mark s (ks.take m.toNat)) hxk.1 (by omega)
    have hnext := mark_next (s := s) m0 hx3
    generalize mark s (ks.take m.toNat) = s2 at *
    cbv
    (repeat ((refine tt ?_); cbv))
    refine el ?_ (by omega) hx4
    cbv
    (repeat ((refine sd ?_); cbv))
    refine el ?_ (by omega) hx5
    cbv
    refine se fun ys e hyc => ?_
    obtain ⟨s3, hs3⟩ : ∃ s3, s3 = mark s (ks.take (m + 1).toNat) := ⟨_, rfl⟩
    have e2 : ys = uB s3 := by rw [e, hs3, ← hnext, ← uB_set]
    clear e hyc
    subst e2
    cbv
    (repeat (((refine wr fun _ _ => ?_)); cbv))
    rename_i m' hm'
    refine lets [0, 1, 4, 5, 6, 42, 43, 44] ?_
    exact hK2 (cnt ks - (m + 1)).toNat _ _ (by omega) ⟨m + 1, by omega, by omega, rfl, by rw [hm']; rfl, by subst hs3; rfl⟩
   ·have e3 : ks.take m.toNat = ks := List.take_of_length_le (by unfold cnt at h6 m1; omega)
    rw [e3]
    have hsc2 : cnt (mark s ks) = cnt s := by unfold cnt; rw [mark_len]
    generalize mark s ks = s2 at *
    cbv
    (repeat ((first | refine ff ?_ | refine wr fun _ _ => ?_); cbv))
    rename_i k' hk'
    refine lets [0, 1, 4, 5, 6] ?_
    refine hK k.toNat _ _ (by omega) ⟨k - 1, s2, by omega, by omega, by omega, by omega, ?_, by rw [hk']; rfl, rfl⟩
    rw [show k - 1 + 1 = k by omega]
    exact hd
 ·rw [show (k + 1).toNat = 0 by omega] at hd
  unfold down at hd
  have hsl := uB_len s
  rw [← hd] at hu
  cbv
  (repeat ((first | refine ff ?_ | refine sd ?_ | intro _ _); cbv))
  rename_i ys e
  rw [hu, e, List.take_of_length_le (by unfold cnt at *; omega)]
theorem remR {a b : List Int} (ha : Limbs a) (hb : Limbs b) (h1 : cnt a ≤ 1000000) (h2 : cnt b ≤ 1000000) (hz : V b ≠ 0) : quo_Rem.R [.l a, .l b] (.tup [.l (N (V a / V b)), .l (N (V a % V b)), ub true]) := by
 obtain ⟨k, hk⟩ := (rem_tells ha hb (by unfold cnt at h1; omega) (by unfold cnt at h2; omega)).rounds
 rw [if_neg hz] at hk
 exact ⟨k, _, _, _, _, _, rfl, hk, rfl⟩
def ratofR (us : List U) (u : U) : Prop := ∃ s l b, Limbs l ∧ Limbs b ∧ cnt l ≤ 500000 ∧ cnt b ≤ 500000 ∧ us = [.agg [ub s, .l l], .l b] ∧ u = uR4 (if V b = 0 then bad 3 else lim (mkRat (Z s l) (V b)))
theorem ratof_ok : SoundF Tryz.prog 119 ratofR := sound [(142, wTrimR), (133, nat_Trim.R), (117, quo_Gcd.R), (141, quo_Rem.R)] (orc_cons wTrim_ok (orc_cons nat_Trim.sound (orc_cons quo_Gcd.sound (orc_cons quo_Rem.sound orc_nil)))) Tryz.func119 (by kernel_rfl) (by kernel_rfl) fun us u hR => ⟨0, fun C E hC => by
 obtain ⟨s, l, b, hl, hb, c1, c2, rfl, hu⟩ := hR
 obtain ⟨s1, l1, k1, e1, e2⟩ := tI (hC 142 wTrimR (by simp) _ _ ⟨s, l, hl, by omega, rfl, rfl⟩)
 have k2 := hC 133 nat_Trim.R (by simp) _ _ (trimR hb (by omega))
 have b1 := lenV hl
 have b2 := lenV hb
 rw [← Z_abs s l] at b1
 generalize Z s l = z at *
 generalize V b = B at *
 by_cases hz : B = 0
 ·subst hz
  rw [if_pos rfl] at hu
  have e0 : cnt (N 0) = 0 := by rw [cnt_N, len_zero]; rfl
  generalize N 0 = l2 at *
  clear e1 e2
  cbv
  (repeat ((first | refine ln fun _ _ _ => ?_ | refine tt ?_ | refine cl ?_); cbv))
  rw [hu]; rfl
 rw [if_neg hz] at hu
 have hg : 0 < Nat.gcd z.natAbs B := Nat.gcd_pos_of_pos_right _ (by omega)
 obtain ⟨p1, p2, p3⟩ := mk_parts z B hz
 have hgb : len (Nat.gcd z.natAbs B) ≤ len B := len_mono (Nat.gcd_le_right _ (by omega))
 have k3 := hC 117 quo_Gcd.R (by simp) _ _ (gcdR (a := l1) (e2 ▸ N_limbs _) (N_limbs B) (by rw [e2, cnt_N]; omega) (by rw [cnt_N]; omega))
 have v1 : V l1 = z.natAbs := by rw [e2, V_N]
 have q1 : cnt l1 = len z.natAbs := by rw [e2, cnt_N]
 have q2 : cnt (N B) = len B := cnt_N _
 rw [v1, V_N] at k3
 have k4 := hC 141 quo_Rem.R (by simp) _ _ (remR (a := l1) (e2 ▸ N_limbs _) (N_limbs (Nat.gcd z.natAbs B)) (by omega) (by rw [cnt_N]; omega) (by rw [V_N]; omega))
 have k5 := hC 141 quo_Rem.R (by simp) _ _ (remR (N_limbs B) (N_limbs (Nat.gcd z.natAbs B)) (by omega) (by rw [cnt_N]; omega) (by rw [V_N]; omega))
 rw [v1, V_N, ← p1] at k4
 rw [V_N, V_N, ← p2] at k5
 have r1 : 0 < cnt (N B) := by have : len B ≠ 0 := fun h => hz (len_eq_zero.1 h); omega
 rw [← p3] at e1
 have hs1 : s1 = (ratOf (mkRat z B)).1 := e1
 have n1 : cnt (N (mkRat z B).num.natAbs) = len (mkRat z B).num.natAbs := cnt_N _
 have n2 : cnt (N (mkRat z B).den) = len (mkRat z B).den := cnt_N _
 have hu2 : u = if len (mkRat z B).num.natAbs ≤ 64 ∧ len (mkRat z B).den ≤ 64 then .tup [.agg [ub s1, .l (N (mkRat z B).num.natAbs), .l (N (mkRat z B).den)], ui 0] else .tup [.agg [ub false, .l [], .l []], ui 2] := by
  rw [hu, hs1]
  unfold lim fits
  by_cases h : len (mkRat z B).num.natAbs ≤ 64 ∧ len (mkRat z B).den ≤ 64
  ·rw [if_pos h, if_pos (by simpa using h)]; rfl
  ·rw [if_neg h, if_neg (by simpa using h)]; rfl
 clear hu hs1 e1 e2 p1 p2 p3 hg hgb v1 b1 b2 q1 q2 hb hl
 generalize len (mkRat z B).num.natAbs = x1 at *
 generalize len (mkRat z B).den = x2 at *
 generalize N (mkRat z B).num.natAbs = l3 at *
 generalize N (mkRat z B).den = l4 at *
 generalize N B = l5 at *
 generalize N (Nat.gcd z.natAbs B) = l6 at *
 generalize N (z.natAbs % Nat.gcd z.natAbs B) = l7 at *
 generalize N (B % Nat.gcd z.natAbs B) = l8 at *
 by_cases h1 : cnt l3 ≤ 64
 ·by_cases h2 : cnt l4 ≤ 64
  ·rw [if_pos (by omega)] at hu2
   cbv; (repeat ((first | refine ln fun _ _ _ => ?_ | refine ff ?_ | refine cl ?_); cbv)); exact hu2.symm
  ·rw [if_neg (by omega)] at hu2
   cbv; (repeat ((first | refine ln fun _ _ _ => ?_ | refine tt ?_ | refine ff ?_ | refine cl ?_); cbv)); exact hu2.symm
 ·rw [if_neg (by omega)] at hu2
  cbv; (repeat ((first | refine ln fun _ _ _ => ?_ | refine tt ?_ | refine ff ?_ | refine cl ?_); cbv)); exact hu2.symm⟩
theorem rat_parts {p : Rat} (hp : fits p = true) : ∃ s l b, ratOf p = (s, l, b) ∧ Limbs l ∧ Limbs b ∧ cnt l ≤ 64 ∧ cnt b ≤ 64 ∧ Z s l = p.num ∧ V b = p.den ∧ V l = p.num.natAbs ∧ s = decide (p.num < 0) := by
 obtain ⟨h1, h2⟩ := fits_len hp
 exact ⟨_, _, _, rfl, N_limbs _, N_limbs _, by rw [cnt_N]; omega, by rw [cnt_N]; omega, Z_ratOf p, V_ratOf p, V_N _, rfl⟩
def crossR (us : List U) (u : U) : Prop := ∃ s1 l1 b1 s2 l2 b2, Limbs l1 ∧ Limbs b2 ∧ cnt l1 ≤ 100000 ∧ cnt b2 ≤ 100000 ∧ us = [.agg [ub s1, .l l1, .l b1], .agg [ub s2, .l l2, .l b2]] ∧ u = uI (Z s1 l1 * V b2)
theorem cross_ok : SoundF Tryz.prog 121 crossR := sound [(123, wMulR)] (orc_cons wMul_ok orc_nil) Tryz.func121 (by kernel_rfl) (by kernel_rfl) fun us u hR => ⟨0, fun C E hC => by
 obtain ⟨s1, l1, b1, s2, l2, b2, hl, hb, c1, c2, rfl, hu⟩ := hR
 obtain ⟨s, l, k1, e1, e2⟩ := tI (hC 123 wMulR (by simp) _ _ ⟨s1, l1, false, b2, hl, hb, c1, c2, rfl, rfl⟩)
 rw [show Z false b2 = (V b2 : Int) by unfold Z; simp] at e1 e2
 cbv; (repeat ((refine cl ?_); cbv)); rw [hu, e1, e2]; rfl⟩
def rWholeR (us : List U) (u : U) : Prop := ∃ v : Int, -9223372036854775808 ≤ v ∧ v ≤ 9223372036854775807 ∧ us = [ui v] ∧ u = uR (ratOf (v : Rat))
theorem rWhole_ok : SoundF Tryz.prog 76 rWholeR := sound [(108, wOfR), (109, nat_Of.R)] (orc_cons wOf_ok (orc_cons nat_Of.sound orc_nil)) Tryz.func76 (by kernel_rfl) (by kernel_rfl) fun us u hR => ⟨0, fun C E hC => by
 obtain ⟨v, h0, h1, rfl, hu⟩ := hR
 obtain ⟨s, l, k1, e1, e2⟩ := tI (hC 108 wOfR (by simp) _ _ ⟨v, h0, h1, rfl, rfl⟩)
 obtain ⟨l2, k2, e3⟩ := tN (hC 109 nat_Of.R (by simp) _ _ (nofR 1 (by omega)))
 rw [ratOf_int] at hu
 cbv; (repeat ((refine cl ?_); cbv)); rw [hu, e1, e2, e3]; rfl⟩
def rNegR (us : List U) (u : U) : Prop := ∃ a : R3, LB a ∧ us = [uR a] ∧ u = uR (negS a)
theorem rNeg_ok : SoundF Tryz.prog 69 rNegR := sound [(86, goodR), (105, wNegR)] (orc_cons good_ok (orc_cons wNeg_ok orc_nil)) Tryz.func69 (by kernel_rfl) (by kernel_rfl) fun us u hR => ⟨0, fun C E hC => by
 obtain ⟨⟨s, l, b⟩, ha, rfl, hu⟩ := hR
 have k1 := hC 86 goodR (by simp) _ _ ⟨_, ha, rfl, rfl⟩
 unfold negS at hu
 by_cases h : goodB (s, l, b) = true
 ·rw [if_pos h] at hu
  rw [h] at k1
  obtain ⟨p, hp, hq⟩ := good_iff.1 h
  obtain ⟨s', l', b', e, g1, g2, g3, g4, g5, g6, g7, g8⟩ := rat_parts hp
  rw [e] at hq
  injection hq with q1 q2
  injection q2 with q2 q3
  subst q1 q2 q3
  rw [← e, qOf_ratOf] at hu
  have e4 : b = N p.den := by rw [← V_ratOf, e]; unfold ratOf at e; injection e with _ e; injection e with _ e; rw [← e, V_N]
  obtain ⟨s1, l1, k2, e1, e2⟩ := tI (hC 105 wNegR (by simp) _ _ ⟨s, l, g1, by omega, rfl, rfl⟩)
  rw [g5] at e1 e2
  have hu' : u = .agg [ub s1, .l l1, .l b] := by
   rw [hu, e1, e2, e4]
   unfold uR ratOf
   rw [Rat.neg_num, Rat.neg_den]
  clear hu e1 e2 e4 e g5 g6 g7 g8 h ha
  cbv; (repeat ((first | refine ln fun _ _ _ => ?_ | refine rp fun _ _ _ => ?_ | refine cp fun _ => ?_ | with_reducible refine bq ?_ | refine cl ?_ | refine sd ?_); cbv)); exact hu'.symm
 ·rw [if_neg h] at hu
  rw [Bool.eq_false_iff.2 h] at k1
  cbv; (repeat ((first | with_reducible refine bq ?_ | refine cl ?_); cbv)); rw [hu]; rfl⟩
theorem uR4_parts (a : R4) : ∃ s l b e, uR4 a = .tup [.agg [ub s, .l l, .l b], ui e] ∧ (s, l, b, e) = a := ⟨_, _, _, _, rfl, rfl⟩
theorem uR4_bad (e : Int) : uR4 (bad e) = .tup [.agg [ub false, .l [], .l []], ui e] := rfl
theorem good_parts {s : Bool} {l b : List Int} (h : goodB (s, l, b) = true) : ∃ p : Rat, fits p = true ∧ qOf (s, l, b) = p ∧ Limbs l ∧ Limbs b ∧ cnt l ≤ 64 ∧ cnt b ≤ 64 ∧ Z s l = p.num ∧ V b = p.den ∧ V l = p.num.natAbs ∧ s = decide (p.num < 0) := by
 obtain ⟨p, hp, hq⟩ := good_iff.1 h
 obtain ⟨s', l', b', e, g⟩ := rat_parts hp
 rw [e] at hq
 injection hq with q1 q2
 injection q2 with q2 q3
 subst q1 q2 q3
 exact ⟨p, hp, by rw [← e, qOf_ratOf], g⟩
def twoR (f : R3 → R3 → R4) (us : List U) (u : U) : Prop := ∃ a b : R3, LB a ∧ LB b ∧ us = [uR a, uR b] ∧ u = uR4 (f a b)
theorem rAdd_ok : SoundF Tryz.prog 89 (twoR addS) := sound [(86, goodR), (121, crossR), (120, wAddR), (122, mul_Of.R), (119, ratofR)] (orc_cons good_ok (orc_cons cross_ok (orc_cons wAdd_ok (orc_cons mul_Of.sound (orc_cons ratof_ok orc_nil))))) Tryz.func89 (by kernel_rfl) (by kernel_rfl) fun us u hR => ⟨0, fun C E hC => by
 obtain ⟨⟨s1, l1, b1⟩, ⟨s2, l2, b2⟩, ha, hb, rfl, hu⟩ := hR
 have k1 := hC 86 goodR (by simp) _ _ ⟨_, ha, rfl, rfl⟩
 have k2 := hC 86 goodR (by simp) _ _ ⟨_, hb, rfl, rfl⟩
 clear ha hb
 unfold addS at hu
 by_cases h1 : goodB (s1, l1, b1) = true
 case neg =>
  rw [Bool.eq_false_iff.2 h1] at k1 hu
  rw [Bool.false_and, if_neg (by simp), uR4_bad] at hu
  cbv; (repeat ((first | with_reducible refine bq ?_ | refine cl ?_); cbv)); exact hu.symm
 by_cases h2 : goodB (s2, l2, b2) = true
 case neg =>
  rw [h1] at k1
  rw [Bool.eq_false_iff.2 h2] at k2 hu
  rw [Bool.and_false, if_neg (by simp), uR4_bad] at hu
  cbv; (repeat ((first | with_reducible refine bq ?_ | refine cl ?_); cbv)); exact hu.symm
 rw [h1] at k1 hu
 rw [h2] at k2 hu
 rw [Bool.true_and, if_pos rfl] at hu
 obtain ⟨p, hp, e1, f1, f2, f3, f4, f5, f6, f7, f8⟩ := good_parts h1
 obtain ⟨q, hq, e2, g1, g2, g3, g4, g5, g6, g7, g8⟩ := good_parts h2
 rw [e1, e2] at hu
 have k3 := hC 121 crossR (by simp) _ _ ⟨s1, l1, b1, s2, l2, b2, f1, g2, by omega, by omega, rfl, rfl⟩
 have k4 := hC 121 crossR (by simp) _ _ ⟨s2, l2, b2, s1, l1, b1, g1, f2, by omega, by omega, rfl, rfl⟩
 rw [f5, g6] at k3
 rw [g5, f6] at k4
 obtain ⟨n1, n2⟩ := fits_len hp
 obtain ⟨n3, n4⟩ := fits_len hq
 have m1 := len_mulZ p.num q.den
 have m2 := len_mulZ q.num p.den
 have m3 := len_mul p.den q.den
 have m4 := len_addZ (p.num * q.den) (q.num * p.den)
 rw [Int.natAbs_natCast] at m1 m2
 obtain ⟨s3, l3, k3, i1, i2⟩ := tI k3
 obtain ⟨s4, l4, k4, i3, i4⟩ := tI k4
 have z1 : Z s3 l3 = p.num * q.den := by rw [i1, i2]; exact Z_I _
 have z2 : Z s4 l4 = q.num * p.den := by rw [i3, i4]; exact Z_I _
 obtain ⟨s5, l5, k5, i5, i6⟩ := tI (hC 120 wAddR (by simp) _ _ ⟨s3, l3, s4, l4, i2 ▸ N_limbs _, i4 ▸ N_limbs _, by rw [i2, cnt_N]; omega, by rw [i4, cnt_N]; omega, rfl, rfl⟩)
 rw [z1, z2] at i5 i6
 have k6 := hC 122 mul_Of.R (by simp) _ _ (mulR f2 g2 (by omega) (by omega))
 rw [f6, g6] at k6
 obtain ⟨l6, k6, i7⟩ := tN k6
 have z3 : Z s5 l5 = p.num * q.den + q.num * p.den := by rw [i5, i6]; exact Z_I _
 have k7 := hC 119 ratofR (by simp) _ _ ⟨s5, l5, l6, i6 ▸ N_limbs _, i7 ▸ N_limbs _, by rw [i6, cnt_N]; omega, by rw [i7, cnt_N]; omega, rfl, rfl⟩
 rw [z3, i7, V_N, if_neg (Nat.mul_ne_zero p.den_nz q.den_nz), ← Rat.add_def', ← i7, ← hu] at k7
 obtain ⟨s7, l7, b7, e7, hu', _⟩ := uR4_parts (lim (p + q))
 rw [← hu] at hu'
 rw [hu'] at k7
 clear hu i1 i2 i3 i4 i5 i6 i7 z1 z2 z3 m1 m2 m3 m4 n1 n2 n3 n4 e1 e2 f1 f2 f3 f4 f5 f6 f7 f8 g1 g2 g3 g4 g5 g6 g7 g8 h1 h2 hp hq
 cbv; (repeat ((first | with_reducible refine bq ?_ | refine cl ?_); cbv)); exact hu'.symm⟩
theorem rSub_ok : SoundF Tryz.prog 90 (twoR subS) := sound [(69, rNegR), (89, twoR addS)] (orc_cons rNeg_ok (orc_cons rAdd_ok orc_nil)) Tryz.func90 (by kernel_rfl) (by kernel_rfl) fun us u hR => ⟨0, fun C E hC => by
 obtain ⟨⟨s1, l1, b1⟩, ⟨s2, l2, b2⟩, ha, hb, rfl, hu⟩ := hR
 obtain ⟨s3, l3, b3, k1, i1⟩ := tR (hC 69 rNegR (by simp) _ _ ⟨_, hb, rfl, rfl⟩)
 have k2 := hC 89 (twoR addS) (by simp) _ _ ⟨(s1, l1, b1), (s3, l3, b3), ha, i1 ▸ LR_neg.wide, rfl, rfl⟩
 rw [show addS (s1, l1, b1) (s3, l3, b3) = subS (s1, l1, b1) (s2, l2, b2) by rw [i1, sub_eq], ← hu] at k2
 obtain ⟨s7, l7, b7, e7, hu', _⟩ := uR4_parts (subS (s1, l1, b1) (s2, l2, b2))
 rw [← hu] at hu'
 rw [hu'] at k2
 clear hu i1 ha hb
 cbv; (repeat ((refine cl ?_); cbv)); exact hu'.symm⟩
theorem rMul_ok : SoundF Tryz.prog 91 (twoR mulS) := sound [(86, goodR), (123, wMulR), (122, mul_Of.R), (119, ratofR)] (orc_cons good_ok (orc_cons wMul_ok (orc_cons mul_Of.sound (orc_cons ratof_ok orc_nil)))) Tryz.func91 (by kernel_rfl) (by kernel_rfl) fun us u hR => ⟨0, fun C E hC => by
 obtain ⟨⟨s1, l1, b1⟩, ⟨s2, l2, b2⟩, ha, hb, rfl, hu⟩ := hR
 have k1 := hC 86 goodR (by simp) _ _ ⟨_, ha, rfl, rfl⟩
 have k2 := hC 86 goodR (by simp) _ _ ⟨_, hb, rfl, rfl⟩
 clear ha hb
 unfold mulS at hu
 by_cases h1 : goodB (s1, l1, b1) = true
 case neg =>
  rw [Bool.eq_false_iff.2 h1] at k1 hu
  rw [Bool.false_and, if_neg (by simp), uR4_bad] at hu
  cbv; (repeat ((first | with_reducible refine bq ?_ | refine cl ?_); cbv)); exact hu.symm
 by_cases h2 : goodB (s2, l2, b2) = true
 case neg =>
  rw [h1] at k1
  rw [Bool.eq_false_iff.2 h2] at k2 hu
  rw [Bool.and_false, if_neg (by simp), uR4_bad] at hu
  cbv; (repeat ((first | with_reducible refine bq ?_ | refine cl ?_); cbv)); exact hu.symm
 rw [h1] at k1 hu
 rw [h2] at k2 hu
 rw [Bool.true_and, if_pos rfl] at hu
 obtain ⟨p, hp, e1, f1, f2, f3, f4, f5, f6, f7, f8⟩ := good_parts h1
 obtain ⟨q, hq, e2, g1, g2, g3, g4, g5, g6, g7, g8⟩ := good_parts h2
 rw [e1, e2] at hu
 obtain ⟨n1, n2⟩ := fits_len hp
 obtain ⟨n3, n4⟩ := fits_len hq
 have m1 := len_mulZ p.num q.num
 have m3 := len_mul p.den q.den
 have k3 := hC 123 wMulR (by simp) _ _ ⟨s1, l1, s2, l2, f1, g1, by omega, by omega, rfl, rfl⟩
 rw [f5, g5] at k3
 obtain ⟨s5, l5, k3, i5, i6⟩ := tI k3
 have k6 := hC 122 mul_Of.R (by simp) _ _ (mulR f2 g2 (by omega) (by omega))
 rw [f6, g6] at k6
 obtain ⟨l6, k6, i7⟩ := tN k6
 have z3 : Z s5 l5 = p.num * q.num := by rw [i5, i6]; exact Z_I _
 have k7 := hC 119 ratofR (by simp) _ _ ⟨s5, l5, l6, i6 ▸ N_limbs _, i7 ▸ N_limbs _, by rw [i6, cnt_N]; omega, by rw [i7, cnt_N]; omega, rfl, rfl⟩
 rw [z3, i7, V_N, if_neg (Nat.mul_ne_zero p.den_nz q.den_nz), ← Rat.mul_def', ← i7, ← hu] at k7
 obtain ⟨s7, l7, b7, e7, hu', _⟩ := uR4_parts (lim (p * q))
 rw [← hu] at hu'
 rw [hu'] at k7
 clear hu i5 i6 i7 z3 m1 m3 n1 n2 n3 n4 e1 e2 f1 f2 f3 f4 f5 f6 f7 f8 g1 g2 g3 g4 g5 g6 g7 g8 h1 h2 hp hq
 cbv; (repeat ((first | with_reducible refine bq ?_ | refine cl ?_); cbv)); exact hu'.symm⟩
theorem div_sign (z : Int) (s : Bool) (l : List Int) (q : Rat) (hs : s = decide (z < 0)) (hl : l = N z.natAbs) : Z (s != decide (q.num < 0)) l = if q.num < 0 then -z else z := by
 unfold Z
 rw [hl, V_N, hs]
 by_cases z1 : z < 0 <;> by_cases z2 : q.num < 0 <;> simp [z1, z2] <;> omega
theorem rDiv_ok : SoundF Tryz.prog 92 (twoR divS) := sound [(86, goodR), (121, crossR), (122, mul_Of.R), (119, ratofR)] (orc_cons good_ok (orc_cons cross_ok (orc_cons mul_Of.sound (orc_cons ratof_ok orc_nil)))) Tryz.func92 (by kernel_rfl) (by kernel_rfl) fun us u hR => ⟨0, fun C E hC => by
 obtain ⟨⟨s1, l1, b1⟩, ⟨s2, l2, b2⟩, ha, hb, rfl, hu⟩ := hR
 have k1 := hC 86 goodR (by simp) _ _ ⟨_, ha, rfl, rfl⟩
 have k2 := hC 86 goodR (by simp) _ _ ⟨_, hb, rfl, rfl⟩
 clear ha hb
 unfold divS at hu
 by_cases h1 : goodB (s1, l1, b1) = true
 case neg =>
  rw [Bool.eq_false_iff.2 h1] at k1 hu
  rw [Bool.false_and, if_neg (by simp), uR4_bad] at hu
  cbv; (repeat ((first | with_reducible refine bq ?_ | refine cl ?_); cbv)); exact hu.symm
 by_cases h2 : goodB (s2, l2, b2) = true
 case neg =>
  rw [h1] at k1
  rw [Bool.eq_false_iff.2 h2] at k2 hu
  rw [Bool.and_false, if_neg (by simp), uR4_bad] at hu
  cbv; (repeat ((first | with_reducible refine bq ?_ | refine cl ?_); cbv)); exact hu.symm
 rw [h1] at k1 hu
 rw [h2] at k2 hu
 rw [Bool.true_and, if_pos rfl] at hu
 obtain ⟨p, hp, e1, f1, f2, f3, f4, f5, f6, f7, f8⟩ := good_parts h1
 obtain ⟨q, hq, e2, g1, g2, g3, g4, g5, g6, g7, g8⟩ := good_parts h2
 rw [e1, e2] at hu
 have k3 := hC 121 crossR (by simp) _ _ ⟨s1, l1, b1, s2, l2, b2, f1, g2, by omega, by omega, rfl, rfl⟩
 rw [f5, g6] at k3
 obtain ⟨n1, n2⟩ := fits_len hp
 obtain ⟨n3, n4⟩ := fits_len hq
 have m1 := len_mulZ p.num q.den
 have m3 := len_mul p.den q.num.natAbs
 rw [Int.natAbs_natCast] at m1
 obtain ⟨s3, l3, k3, i1, i2⟩ := tI k3
 have k6 := hC 122 mul_Of.R (by simp) _ _ (mulR f2 g1 (by omega) (by omega))
 rw [f6, g7] at k6
 obtain ⟨l6, k6, i7⟩ := tN k6
 have k7 := hC 119 ratofR (by simp) _ _ ⟨s3 != s2, l3, l6, i2 ▸ N_limbs _, i7 ▸ N_limbs _, by rw [i2, cnt_N]; omega, by rw [i7, cnt_N]; omega, rfl, rfl⟩
 have z3 := div_sign (p.num * q.den) s3 l3 q i1 i2
 rw [← g8] at z3
 have hd : (if V l6 = 0 then bad 3 else lim (mkRat (Z (s3 != s2) l3) (V l6))) = (if q = 0 then bad 3 else lim (p / q)) := by
  rw [z3, i7, V_N]
  by_cases hz : q.num = 0
  ·have : q = 0 := Rat.num_eq_zero.1 hz
   rw [if_pos (by rw [hz]; simp), if_pos this]
  ·rw [if_neg (Nat.mul_ne_zero p.den_nz (by omega)), if_neg (show ¬ q = 0 from fun h => hz (by rw [h]; rfl)), div_mk p q hz]
 rw [hd, ← hu] at k7
 obtain ⟨s7, l7, b7, e7, hu', _⟩ := uR4_parts (if q = 0 then bad 3 else lim (p / q))
 rw [← hu] at hu'
 rw [hu'] at k7
 clear hu hd i1 i2 i7 z3 m1 m3 n1 n2 n3 n4 e1 e2 f1 f2 f3 f4 f5 f6 f7 f8 g1 g2 g3 g4 g5 g6 g7 g8 h1 h2 hp hq
 cases s3 <;> cases s2 <;> cbv <;> (repeat ((first | with_reducible refine bq ?_ | refine cl ?_); cbv)) <;> exact hu'.symm⟩
theorem powR {a : List Int} (ha : Limbs a) (h1 : cnt a ≤ 1000000) {n : Int} {e : Nat} (hn : n = e) (he : e ≤ 1000) : mul_Pow.R [.l a, ui n] (.tup [.l (if len (V a ^ e) ≤ 256 then N (V a ^ e) else []), ub (decide (len (V a ^ e) ≤ 256))]) := by
 obtain ⟨k, hk⟩ := (pow_tells ha (by unfold cnt at h1; omega) e (by omega)).rounds
 subst hn
 by_cases h : len (V a ^ e) ≤ 256
 ·rw [if_pos h] at hk; rw [if_pos h, decide_eq_true h]; exact ⟨k, _, _, _, _, rfl, hk, rfl⟩
 ·rw [if_neg h] at hk; rw [if_neg h, decide_eq_false h]; exact ⟨k, _, _, _, _, rfl, hk, rfl⟩
theorem withinR (n : Int) : power_within.R [ui n, ui 128] (ub (decide (-128 ≤ n ∧ n ≤ 128))) := ⟨_, _, _, rfl, within_tells n 128 (by omega) (by omega), rfl⟩
def turnedR (us : List U) (u : U) : Prop := ∃ a : R3, LB a ∧ us = [uR a] ∧ u = uR4 (divS (ratOf 1) a)
theorem turned_ok : SoundF Tryz.prog 125 turnedR := sound [(76, rWholeR), (92, twoR divS)] (orc_cons rWhole_ok (orc_cons rDiv_ok orc_nil)) Tryz.func125 (by kernel_rfl) (by kernel_rfl) fun us u hR => ⟨0, fun C E hC => by
 obtain ⟨⟨s2, l2, b2⟩, hb, rfl, hu⟩ := hR
 have k1 := hC 76 rWholeR (by simp) _ _ ⟨1, by omega, by omega, rfl, rfl⟩
 rw [show ((1 : Int) : Rat) = 1 from rfl] at k1
 have h1 : LB (ratOf 1) := (LR_ratOf (by decide +kernel)).wide
 obtain ⟨s1, l1, b1, k1, e⟩ := tR k1
 rw [← e] at h1 hu
 have k2 := hC 92 (twoR divS) (by simp) _ _ ⟨(s1, l1, b1), (s2, l2, b2), h1, hb, rfl, rfl⟩
 obtain ⟨s7, l7, b7, e7, hu', _⟩ := uR4_parts (divS (s1, l1, b1) (s2, l2, b2))
 rw [hu'] at k2 hu
 clear e h1 hb
 cbv; (repeat ((refine cl ?_); cbv)); exact hu.symm⟩
theorem turnS {p : Rat} (hp : fits p = true) : divS (ratOf 1) (ratOf p) = if p = 0 then bad 3 else ((ratOf p⁻¹).1, (ratOf p⁻¹).2.1, (ratOf p⁻¹).2.2, 0) := by
 have k1 : fits (1 : Rat) = true := by decide +kernel
 unfold divS
 rw [good_ratOf k1, good_ratOf hp, qOf_ratOf, qOf_ratOf]
 by_cases h : p = 0
 ·rw [if_pos h, if_pos h]
  rfl
 ·rw [if_neg h, if_neg h, Rat.div_def, Rat.one_mul]
  unfold lim
  rw [if_pos (fits_inv hp h)]
  rfl
def powPosR (us : List U) (u : U) : Prop := ∃ (p : Rat) (e : Nat) (n : Int), fits p = true ∧ n = e ∧ 0 < n ∧ n ≤ 128 ∧ us = [uR (ratOf p), ui n] ∧ u = uR4 (lim (p ^ e))
theorem powPos_ok : SoundF Tryz.prog 93 powPosR := sound [(86, goodR), (124, power_within.R), (126, mul_Pow.R), (119, ratofR)] (orc_cons good_ok (orc_cons power_within.sound (orc_cons mul_Pow.sound (orc_cons ratof_ok orc_nil)))) Tryz.func93 (by kernel_rfl) (by kernel_rfl) fun us u hR => ⟨0, fun C E hC => by
 obtain ⟨p, e, n, hp, hn, h0, h1, rfl, hu⟩ := hR
 have k1 := hC 86 goodR (by simp) _ _ ⟨_, (LR_ratOf hp).wide, rfl, rfl⟩
 rw [good_ratOf hp] at k1
 have k2 := hC 124 power_within.R (by simp) _ _ (withinR n)
 rw [decide_eq_true (by omega)] at k2
 have sg := pow_sign p e (by omega) (by omega)
 rw [show Int.tmod (e : Int) 2 = Int.tmod n 2 by rw [hn]] at sg
 obtain ⟨s, l, b, eq, g1, g2, g3, g4, g5, g6, g7, g8⟩ := rat_parts hp
 rw [eq] at k1 sg ⊢
 have k3 := hC 126 mul_Pow.R (by simp) _ _ (powR g1 (by omega) hn (by omega))
 have k4 := hC 126 mul_Pow.R (by simp) _ _ (powR g2 (by omega) hn (by omega))
 rw [g7] at k3
 rw [g6] at k4
 by_cases hA : len (p.num.natAbs ^ e) ≤ 256
 case neg =>
  rw [if_neg hA, decide_eq_false hA] at k3
  rw [pow_far p e (Or.inl hA)] at hu
  generalize (if len (p.den ^ e) ≤ 256 then N (p.den ^ e) else []) = l4 at *
  clear sg eq g1 g2 g3 g4 g5 g6 g7 g8 hn hp hA
  generalize decide (len (p.den ^ e) ≤ 256) = t4 at *
  cases t4 <;> cbv <;> (repeat ((first | refine ff ?_ | with_reducible refine bq ?_ | refine cl ?_); cbv)) <;> exact hu.symm
 by_cases hB : len (p.den ^ e) ≤ 256
 case neg =>
  rw [if_pos hA, decide_eq_true hA] at k3
  rw [if_neg hB, decide_eq_false hB] at k4
  rw [pow_far p e (Or.inr hB)] at hu
  generalize N (p.num.natAbs ^ e) = l3 at *
  clear sg eq g1 g2 g3 g4 g5 g6 g7 g8 hn hp hA hB
  cbv; (repeat ((first | refine ff ?_ | with_reducible refine bq ?_ | refine cl ?_); cbv)); exact hu.symm
 rw [if_pos hA, decide_eq_true hA] at k3
 rw [if_pos hB, decide_eq_true hB] at k4
 have k5 := hC 119 ratofR (by simp) _ _ ⟨s && (Int.tmod n 2 == 1), N (p.num.natAbs ^ e), N (p.den ^ e), N_limbs _, N_limbs _, by rw [cnt_N]; omega, by rw [cnt_N]; omega, rfl, rfl⟩
 rw [sg, V_N, if_neg (Nat.ne_of_gt (Nat.pow_pos (Nat.pos_of_ne_zero p.den_nz))), pow_mk, ← hu] at k5
 obtain ⟨s7, l7, b7, e7, hu', _⟩ := uR4_parts (lim (p ^ e))
 rw [← hu] at hu'
 rw [hu'] at k5
 have c4 : cnt (N (p.den ^ e)) ≤ 256 := by rw [cnt_N]; omega
 generalize N (p.num.natAbs ^ e) = l3 at *
 generalize N (p.den ^ e) = l4 at *
 clear hu sg eq g1 g2 g3 g4 g5 g6 g7 g8 hn hp hA hB
 by_cases ht : Int.tmod n 2 = 1
 ·rw [ht] at k5
  cases s <;> cbv <;> (repeat ((first | refine ln fun _ _ _ => ?_ | refine tt ?_ | refine ff ?_ | refine rp fun _ _ _ => ?_ | refine cp fun _ => ?_ | with_reducible refine bq ?_ | refine cl ?_ | refine sd ?_ | intro _ _); cbv)) <;> exact hu'.symm
 ·rw [show (Int.tmod n 2 == 1) = false by simpa using ht] at k5
  cases s <;> cbv <;> (repeat ((first | refine ln fun _ _ _ => ?_ | refine ff ?_ | refine rp fun _ _ _ => ?_ | refine cp fun _ => ?_ | with_reducible refine bq ?_ | refine cl ?_ | refine sd ?_ | intro _ _); cbv)) <;> exact hu'.symm⟩
def powOfR (us : List U) (u : U) : Prop := ∃ (a : R3) (n : Int), LB a ∧ -9223372036854775808 ≤ n ∧ n ≤ 9223372036854775807 ∧ us = [uR a, ui n] ∧ u = uR4 (powS a n)
theorem power_ok : SoundF Tryz.prog 93 powOfR := by
 have main := sound (f := 93) (R := fun us u => ∃ (a : R3) (n : Int), LB a ∧ ¬ (goodB a = true ∧ 0 < n ∧ n ≤ 128) ∧ -9223372036854775808 ≤ n ∧ n ≤ 9223372036854775807 ∧ us = [uR a, ui n] ∧ u = uR4 (powS a n)) [(86, goodR), (124, power_within.R), (76, rWholeR), (125, turnedR), (93, powPosR)] (orc_cons good_ok (orc_cons power_within.sound (orc_cons rWhole_ok (orc_cons turned_ok (orc_cons powPos_ok orc_nil))))) Tryz.func93 (by kernel_rfl) (by kernel_rfl) fun us u hR => ⟨0, fun C E hC => by
  obtain ⟨⟨s, l, b⟩, n, ha, hno, h0, h1, rfl, hu⟩ := hR
  have k1 := hC 86 goodR (by simp) _ _ ⟨_, ha, rfl, rfl⟩
  have k2 := hC 124 power_within.R (by simp) _ _ (withinR n)
  unfold powS at hu
  by_cases hg : goodB (s, l, b) = true
  case neg =>
   rw [if_neg hg] at hu
   rw [Bool.eq_false_iff.2 hg] at k1
   clear hno
   cbv; (repeat ((first | with_reducible refine bq ?_ | refine cl ?_); cbv)); exact hu.symm
  rw [if_pos hg] at hu
  rw [hg] at k1
  by_cases hw : -128 ≤ n ∧ n ≤ 128
  case neg =>
   rw [if_neg hw] at hu
   rw [decide_eq_false hw] at k2
   clear hno
   cbv; (repeat ((first | with_reducible refine bq ?_ | refine cl ?_); cbv)); exact hu.symm
  rw [if_pos hw] at hu
  rw [decide_eq_true hw] at k2
  by_cases hz : n = 0
  ·subst hz
   rw [if_neg (by omega), Rat.zpow_zero] at hu
   obtain ⟨s1, l1, b1, k3, e3⟩ := tR (hC 76 rWholeR (by simp) _ _ ⟨1, by omega, by omega, rfl, rfl⟩)
   rw [lim_fits (show fits 1 = true by decide +kernel), show (1 : Rat) = ((1 : Int) : Rat) from rfl, ← e3] at hu
   clear hno
   cbv; (repeat ((first | refine tt ?_ | with_reducible refine bq ?_ | refine cl ?_); cbv)); exact hu.symm
  have hn : n < 0 := by
   rcases Int.lt_trichotomy n 0 with h | h | h
   ·exact h
   ·exact absurd h hz
   ·exact absurd ⟨hg, h, hw.2⟩ hno
  clear hno
  obtain ⟨p, hp, e1, hq⟩ := good_parts hg
  have hr : (s, l, b) = ratOf p := by
   obtain ⟨p', hp', hq'⟩ := good_iff.1 hg
   rw [hq', ← e1, hq', qOf_ratOf]
  rw [e1] at hu
  have k3 := hC 125 turnedR (by simp) _ _ ⟨(s, l, b), ha, rfl, rfl⟩
  rw [show divS (ratOf 1) (s, l, b) = if p = 0 then bad 3 else ((ratOf p⁻¹).1, (ratOf p⁻¹).2.1, (ratOf p⁻¹).2.2, 0) by rw [hr, turnS hp]] at k3
  by_cases hp0 : p = 0
  ·rw [if_pos ⟨hn, hp0⟩] at hu
   rw [if_pos hp0] at k3
   clear hr hp hq e1
   cbv; (repeat ((first | refine tt ?_ | refine ff ?_ | with_reducible refine bq ?_ | refine cl ?_); cbv)); exact hu.symm
  ·rw [if_neg (fun hh => hp0 hh.2)] at hu
   rw [if_neg hp0] at k3
   obtain ⟨e, hne⟩ : ∃ e : Nat, -n = (e : Int) := ⟨n.natAbs, by omega⟩
   have k4 := hC 93 powPosR (by simp) _ _ ⟨p⁻¹, e, -n, fits_inv hp hp0, hne, by omega, by omega, rfl, rfl⟩
   rw [inv_pow, show (p ^ e)⁻¹ = p ^ n by rw [show n = -(e : Int) by omega, Rat.zpow_neg, Rat.zpow_natCast], ← hu] at k4
   obtain ⟨s7, l7, b7, e7, hu', _⟩ := uR4_parts (lim (p ^ n))
   rw [← hu] at hu'
   rw [hu'] at k4
   obtain ⟨s8, l8, b8, h8⟩ : ∃ s l b, ratOf p⁻¹ = (s, l, b) := ⟨_, _, _, rfl⟩
   rw [h8] at k3 k4
   clear hu hr hp hq e1 h8 hne
   have k4 : ∀ r, r = -n → C 93 [.agg [ub s8, .l l8, .l b8], ui r] (U.tup [U.agg [ub s7, U.l l7, U.l b7], ui e7]) := fun r hr => by rw [hr]; exact k4
   cbv
   repeat ((first | refine tt ?_ | refine ff ?_ | refine cl ?_ | with_reducible refine bq ?_ | refine wr fun r hr => (have k5 := k4 r hr; ?_)); cbv)
   exact hu'.symm⟩
 intro us u hR
 obtain ⟨a, n, ha, h0, h1, rfl, rfl⟩ := hR
 by_cases hpos : goodB a = true ∧ 0 < n ∧ n ≤ 128
 ·refine powPos_ok _ _ ?_
  obtain ⟨x1, x2, x3⟩ := hpos
  obtain ⟨p, hp, rfl⟩ := good_iff.1 x1
  obtain ⟨e, rfl⟩ : ∃ e : Nat, n = (e : Int) := ⟨n.natAbs, by omega⟩
  refine ⟨p, e, e, hp, rfl, x2, x3, rfl, ?_⟩
  unfold powS
  rw [if_pos x1, if_pos ⟨by omega, x3⟩, if_neg (by omega), qOf_ratOf, Rat.zpow_natCast]
 ·exact main _ _ ⟨a, n, ha, hpos, h0, h1, rfl, rfl⟩
def ownR (us : List U) (u : U) : Prop := ∃ a : R3, LB a ∧ us = [uR a] ∧ u = uR (ownS a)
theorem own_ok : SoundF Tryz.prog 88 ownR := sound [(69, rNegR)] (orc_cons rNeg_ok orc_nil) Tryz.func88 (by kernel_rfl) (by kernel_rfl) fun us u hR => ⟨0, fun C E hC => by
 obtain ⟨⟨s, l, d⟩, ha, rfl, hu⟩ := hR
 obtain ⟨s1, l1, d1, k1, i1⟩ := tR (hC 69 rNegR (by simp) _ _ ⟨_, ha, rfl, rfl⟩)
 have k2 := hC 69 rNegR (by simp) _ _ ⟨(s1, l1, d1), i1 ▸ LB_neg _, rfl, rfl⟩
 rw [show negS (s1, l1, d1) = ownS (s, l, d) by rw [i1]; rfl, ← hu] at k2
 obtain ⟨s2, l2, d2, hu', _⟩ : ∃ s l b, u = .agg [ub s, .l l, .l b] ∧ True := ⟨_, _, _, hu, trivial⟩
 rw [hu'] at k2
 clear hu i1 ha
 cbv; (repeat ((refine cl ?_); cbv)); exact hu'.symm⟩
theorem refs_iff {c : List Tm} {nd : List Bool} {n : Int} : refsB c nd n = true ↔ ∀ (j : Nat) t, c[j]? = some t → nd[j]? = some true → t.k = 2 → t.n < n := by
 unfold refsB
 rw [List.all_eq_true]
 constructor
 ·intro h j t ht hb hk
  have := h j (List.mem_range.2 (List.getElem?_eq_some_iff.1 ht).1)
  rw [ht] at this
  simp only [hb, beq_self_eq_true, hk, decide_true, Bool.true_and, Bool.not_eq_true', decide_eq_false_iff_not] at this
  omega
 ·intro h j hj
  cases ht : c[j]? with
  | none => rfl
  | some t =>
   show (!(nd[j]? == some true && decide (t.k = 2) && decide (n ≤ t.n))) = true
   by_cases hb : nd[j]? = some true
   ·by_cases hk : t.k = 2
    ·have := h j t ht hb hk
     simp only [hb, beq_self_eq_true, hk, decide_true, Bool.true_and, Bool.not_eq_true', decide_eq_false_iff_not]
     omega
    ·simp [hk]
   ·simp [hb]
theorem needs_len (c : List Tm) (i : Nat) : cnt (needs c i) = cnt c := by unfold needs cnt; rw [down_len, List.length_set, List.length_replicate]
theorem cnt_eq {α β : Type} {a : List α} {b : List β} (h : cnt a = cnt b) : a.length = b.length := by unfold cnt at h; omega
abbrev EnV (r : Nat) (C : Orc) (E E' : Ent) : Prop := Enters r [48, 49, 87, 50] C [(48, Tryz.f48), (49, Tryz.f49), (87, Tryz.f87), (50, Tryz.f50)] E E'
theorem made_in {C : Orc} {E E' : Ent} {r : Nat} (hE : EnV r C E E')
  (kN : Told C 35 needsR) (kG : Told C 86 goodR) {c : List Tm} {i : Int} {xs : List R3} (hq : ∀ t ∈ c, LB t.q) (hn : cnt c ≤ 1000000) (hx : ∀ a ∈ xs, LB a) (hxn : cnt xs ≤ 1000000) (hr : (cnt c).toNat + (cnt xs).toNat + 10 < r) {k : U → Heap → Prop}
  (h1 : madeB c i xs = true → k (.tup [.ptr 2 0, ub true]) [some (.cells [ub false, .l [], .l []]), some (.row 3 ((List.replicate c.length none3).map qU)), some (.cells [cU c, .s 1 (uB (needs c i.toNat)), qsU xs, .sl 1 (cnt c) (cnt c) 3, ui 0])])
  (h2 : madeB c i xs = false → ∀ h, k (.tup [.v (.pointer none), ub false]) (some (.cells [ub false, .l [], .l []]) :: h)) : E' 48 [cU c, ui i, qsU xs] [some (.cells [ub false, .l [], .l []])] k := by
 refine hE 48 Tryz.f48 (by simp) _ _ _ ?_
 have k1 := kN _ _ ⟨c, i, hq, hn, rfl, rfl⟩
 have kg : ∀ (j : Int) a, 0 ≤ j → xs[j.toNat]? = some a → C 86 [.agg (qU a)] (ub (goodB a)) := fun j a h0 ha => kG _ _ ⟨a, hx a (List.mem_of_getElem? ha), rfl, rfl⟩
 have hcn := fun i (h0 : 0 ≤ i) (h1 : i < cnt c) => nth_map (c := c) tU h0 h1
 have hxm := fun i (h0 : 0 ≤ i) (h1 : i < cnt xs) => nth_map (c := xs) qU h0 h1
 have hc := cnt_map c tU
 have hxc := cnt_map xs qU
 have hc0 := cnt0 c
 have hx0 := cnt0 xs
 have hnl := needs_len c i.toNat
 unfold madeB at h1 h2
 unfold needsU at k1
 rw [List.map_replicate] at h1
 clear kN kG hx hq
 unfold cU qsU at *
 generalize c.map tU = cs at *
 generalize xs.map qU = ys at *
 cases hmc : mayC c i
 ·rw [hmc, if_neg (by simp)] at k1
  rw [hmc, Bool.false_and, Bool.false_and] at h2
  have h2 := h2 rfl
  clear h1
  cbv
  (repeat ((first | refine ln fun _ _ _ => ?_ | refine rp fun _ _ _ => ?_ | refine cl ?_ | refine sd ?_); cbv))
  exact h2 _
 rw [hmc, if_pos rfl] at k1
 rw [hmc, Bool.true_and] at h1 h2
 generalize needs c i.toNat = nd at *
 have hnx := fun j (h0 : 0 ≤ j) (h1 : j < cnt nd) => uB_nth (s := nd) h0 h1
 have hnn : uB nd ≠ [] := by
  unfold mayC at hmc
  simp only [Bool.and_eq_true, decide_eq_true_eq] at hmc
  unfold uB
  intro h
  rw [List.map_eq_nil_iff] at h
  rw [h] at hnl
  have : cnt ([] : List Bool) = 0 := rfl
  omega
 generalize uB nd = nds at *
 obtain ⟨y, nds', hns⟩ := List.exists_cons_of_ne_nil hnn
 clear hnn
 obtain ⟨nd2, hnd2⟩ : ∃ nd2, nd2 = nds := ⟨_, rfl⟩
 rw [← hnd2] at h1 hnx
 subst hns
 cbv
 (repeat ((first | refine ln fun _ _ _ => ?_ | refine rp fun _ _ _ => ?_ | refine cl ?_ | refine sd ?_); cbv))
 rename_i n hn1 hn2 rs hrs hrc nx hx1 hx2
 refine lets [0, 2, 8, 28, 29, 30] ?_
 cbv
 refine loop_inv (fun j a h => ∃ q : Int, 0 ≤ q ∧ q ≤ cnt xs ∧ j = (cnt xs - q).toNat ∧ (∀ (p : Nat) z, (p : Int) < q → xs[p]? = some z → goodB z = true) ∧ a = [.s 7 cs, .lost, .s 3 ys, .lost, .lost, .lost, .lost, .lost, .ptr 2 0, .lost, .lost, .lost, .lost, .lost, .lost, .lost, .lost, .lost, .lost, .lost, .lost, .lost, .lost, .lost, .lost, .lost, .lost, .lost, .s 3 ys, ui nx, ui q, .lost, .lost, .lost, .lost, .lost, .lost, .lost, .lost, .lost, .lost, .lost, .lost, .lost, .lost, .lost, .lost, .lost, .lost, .lost, .lost, .lost, .lost, .lost, .lost, .lost, .lost, .lost, .lost, .lost, .lost, .lost, .lost, .lost, .lost, .lost] ∧ h = [some (.cells [ub false, .l [], .l []]), some (.row 3 rs), some (.cells [.s 7 cs, .s 1 nd2, .s 3 ys, .sl 1 n n 3, ui 0])]) ?_ r (cnt xs).toNat _ _ (by omega) ⟨0, by omega, by omega, by omega, fun p z hp _ => absurd hp (by omega), rfl, by rw [hnd2]⟩
 rintro j a h K ⟨q, q0, q1, hj, hg, rfl, rfl⟩ hK
 rcases Decidable.em (q < cnt xs) with hlt | hlt
 ·obtain ⟨⟨s, l, d⟩, hz, hy⟩ := hxm q q0 hlt
  have k2 := kg q _ q0 hz
  have hg' : goodB (s, l, d) = true → ∀ (p : Nat) z, (p : Int) < q + 1 → xs[p]? = some z → goodB z = true := fun hb p z hp hz' => by
   by_cases e : (p : Int) = q
   ·have : p = q.toNat := by omega
    rw [this, hz] at hz'
    injection hz' with hz'
    rw [← hz']
    exact hb
   ·exact hg p z (by omega) hz'
  have hg2 : goodB (s, l, d) = false → xs.all goodB = false := fun hb => by
   rw [Bool.eq_false_iff, Ne, List.all_eq_true]
   intro hh
   rw [hh _ (List.mem_of_getElem? hz)] at hb
   cases hb
  generalize goodB (s, l, d) = g at k2 hg' hg2
  cases g
  ·rw [hg2 rfl, Bool.false_and] at h2
   have h2 := h2 rfl
   clear hg' hg2 hg h1
   cbv
   (repeat ((refine tt ?_); cbv))
   refine el ?_ (by omega) hy
   cbv
   (repeat ((first | with_reducible refine bq ?_ | refine cl ?_); cbv))
   exact h2 _
  ·clear hg2
   cbv
   (repeat ((refine tt ?_); cbv))
   refine el ?_ (by omega) hy
   cbv
   (repeat ((first | refine wr fun _ _ => ?_ | with_reducible refine bq ?_ | refine cl ?_); cbv))
   rename_i q' hq'
   refine lets [0, 2, 8, 28, 29, 30] ?_
   exact hK (cnt xs - (q + 1)).toNat _ _ (by omega) ⟨q + 1, by omega, by omega, rfl, hg' rfl, by rw [hq']; rfl, rfl⟩
 have hall : xs.all goodB = true := List.all_eq_true.2 fun z hz => by
  obtain ⟨p, hp, rfl⟩ := List.mem_iff_getElem.1 hz
  exact hg p _ (by unfold cnt at hlt; omega) (List.getElem?_eq_getElem hp)
 rw [hall, Bool.true_and] at h1 h2
 clear hg hall kg hxm
 cbv
 (repeat ((first | refine ln fun _ _ _ => ?_ | refine ff ?_); cbv))
 rename_i nc hnc1 hnc2
 refine lets [0, 2, 8, 38, 39, 40] ?_
 cbv
 refine loop_inv (fun j a h => ∃ q : Int, 0 ≤ q ∧ q ≤ cnt c ∧ j = (cnt c - q).toNat ∧ (∀ (p : Nat) t, (p : Int) < q → c[p]? = some t → nd[p]? = some true → t.k = 2 → t.n < cnt xs) ∧ a = [.s 7 cs, .lost, .s 3 ys, .lost, .lost, .lost, .lost, .lost, .ptr 2 0, .lost, .lost, .lost, .lost, .lost, .lost, .lost, .lost, .lost, .lost, .lost, .lost, .lost, .lost, .lost, .lost, .lost, .lost, .lost, .lost, .lost, .lost, .lost, .lost, .lost, .lost, .lost, .lost, .lost, .s 7 cs, ui nc, ui q, .lost, .lost, .lost, .lost, .lost, .lost, .lost, .lost, .lost, .lost, .lost, .lost, .lost, .lost, .lost, .lost, .lost, .lost, .lost, .lost, .lost, .lost, .lost, .lost, .lost] ∧ h = [some (.cells [ub false, .l [], .l []]), some (.row 3 rs), some (.cells [.s 7 cs, .s 1 nd2, .s 3 ys, .sl 1 n n 3, ui 0])]) ?_ r (cnt c).toNat _ _ (by omega) ⟨0, by omega, by omega, by omega, fun p z hp _ => absurd hp (by omega), rfl, rfl⟩
 rintro j2 a h K2 ⟨q, q0, q1, hj2, hg, rfl, rfl⟩ hK2
 clear hK
 rcases Decidable.em (q < cnt c) with hlt | hlt
 ·obtain ⟨⟨kd, ta, tb, m, s, l, d⟩, ht, hy⟩ := hcn q q0 hlt
  obtain ⟨b, hb, hz⟩ := hnx q q0 (by omega)
  have hg' : (b = true → kd = 2 → m < cnt xs) → ∀ (p : Nat) t, (p : Int) < q + 1 → c[p]? = some t → nd[p]? = some true → t.k = 2 → t.n < cnt xs := fun hh p t hp ht' hb' hk => by
   by_cases e : (p : Int) = q
   ·have : p = q.toNat := by omega
    subst this
    rw [ht] at ht'
    injection ht' with ht'
    subst ht'
    rw [hb] at hb'
    injection hb' with hb'
    exact hh hb' hk
   ·exact hg p t (by omega) ht' hb' hk
  have hg2 : b = true → kd = 2 → ¬ m < cnt xs → refsB c nd (cnt xs) = false := fun e1 e2 e3 => by
   rw [Bool.eq_false_iff]
   intro hh
   exact e3 (refs_iff.1 hh q.toNat _ ht (by rw [hb, e1]) e2)
  clear hg hcn hnx ht hb
  cbv
  (repeat ((refine tt ?_); cbv))
  refine el ?_ (by omega) hy
  cbv
  (repeat ((first | refine ln fun _ _ _ => ?_ | refine tt ?_ | refine ff ?_ | refine wr fun _ _ => ?_ | refine rp fun _ _ _ => ?_ | with_reducible refine bq ?_ | refine cl ?_ | refine sd ?_ | intro _ _); cbv))
  refine el ?_ (by omega) hz
  clear hy hz
  cases b
  ·cbv
   (repeat (((refine wr fun _ _ => ?_)); cbv))
   rename_i q' hq'
   refine lets [0, 2, 8, 38, 39, 40] ?_
   exact hK2 (cnt c - (q + 1)).toNat _ _ (by omega) ⟨q + 1, by omega, by omega, rfl, hg' (fun e => by cases e), by rw [hq']; rfl, rfl⟩
  rcases Decidable.em (kd = 2) with h3 | h3
  ·rcases Decidable.em (m < cnt xs) with h4 | h4
   ·clear hg2
    cbv
    (repeat ((first | refine ln fun _ _ _ => ?_ | refine tt ?_ | refine ff ?_ | refine wr fun _ _ => ?_); cbv))
    rename_i q' hq'
    refine lets [0, 2, 8, 38, 39, 40] ?_
    exact hK2 (cnt c - (q + 1)).toNat _ _ (by omega) ⟨q + 1, by omega, by omega, rfl, hg' (fun _ _ => h4), by rw [hq']; rfl, rfl⟩
   ·have h2 := h2 (hg2 rfl h3 h4)
    clear hg2 hg' h1 hK2
    cbv
    (repeat ((first | refine ln fun _ _ _ => ?_ | refine tt ?_); cbv))
    exact h2 _
  ·clear hg2
   cbv
   (repeat ((first | refine ff ?_ | refine wr fun _ _ => ?_); cbv))
   rename_i q' hq'
   refine lets [0, 2, 8, 38, 39, 40] ?_
   exact hK2 (cnt c - (q + 1)).toNat _ _ (by omega) ⟨q + 1, by omega, by omega, rfl, hg' (fun _ e => absurd e h3), by rw [hq']; rfl, rfl⟩
 ·have h1 := h1 (refs_iff.2 fun p t ht hb hk => hg p t (by have := (List.getElem?_eq_some_iff.1 ht).1; unfold cnt at hlt; omega) ht hb hk)
  have hrs2 : rs = List.replicate c.length (qU none3) := by
   rw [hrs]
   congr 1
   unfold cnt at hc hn1
   omega
  have hnc : n = cnt c := by omega
  rw [← hrs2, ← hnc] at h1
  clear hg hcn hnx h2
  cbv
  (repeat ((refine ff ?_); cbv))
  exact h1
theorem term_cases {t : Tm} {i : Int} (h : termOk t i = true) : t.k = 1 ∨ (t.k = 2 ∧ 0 ≤ t.n) ∨ ((t.k = 3 ∨ t.k = 4 ∨ t.k = 5 ∨ t.k = 6) ∧ (0 ≤ t.a ∧ t.a < i) ∧ 0 ≤ t.b ∧ t.b < i) ∨ (t.k = 7 ∧ 0 ≤ t.a ∧ t.a < i) ∨ (t.k = 8 ∧ (0 ≤ t.a ∧ t.a < i) ∧ -128 ≤ t.n ∧ t.n ≤ 128) := by
 unfold termOk noneB kid at h
 by_cases h1 : t.k = 1
 ·exact .inl h1
 rw [if_neg h1] at h
 by_cases h2 : t.k = 2
 ·rw [if_pos h2] at h
  simp at h
  exact .inr (.inl ⟨h2, by omega⟩)
 rw [if_neg h2] at h
 by_cases h7 : t.k = 7
 ·rw [if_pos h7] at h
  simp at h
  exact .inr (.inr (.inr (.inl ⟨h7, by omega, by omega⟩)))
 rw [if_neg h7] at h
 by_cases h8 : t.k = 8
 ·rw [if_pos h8] at h
  simp at h
  exact .inr (.inr (.inr (.inr ⟨h8, by omega, by omega⟩)))
 rw [if_neg h8] at h
 by_cases h9 : t.k = 3 ∨ t.k = 4 ∨ t.k = 5 ∨ t.k = 6
 ·rw [if_pos h9] at h
  simp at h
  exact .inr (.inr (.inl ⟨h9, by omega, by omega⟩))
 ·rw [if_neg h9] at h
  simp at h
theorem at3_of {l : List R3} {i : Int} {a : R3} (h : l[i.toNat]? = some a) : at3 l i = a := by unfold at3; rw [h]; rfl
structure TermTold (C : Orc) : Prop where
 o : Told C 88 ownR
 a : Told C 89 (twoR addS)
 s : Told C 90 (twoR subS)
 m : Told C 91 (twoR mulS)
 d : Told C 92 (twoR divS)
 n : Told C 69 rNegR
 p : Told C 93 powOfR
theorem term_in {C : Orc} {E0 E1 E2 : Ent} {r : Nat} (h0 : EnV r C E0 E1) (hE : EnV r C E1 E2) (kT : TermTold C) {t : Tm} {i : Int} {vs xs : List R3} {cs nds : Rows} {o : Ob} {n cn : Int} (ht : termOk t i = true) (hi : i ≤ cnt vs) (hr : t.k = 2 → t.n < cnt xs) (hn : n = cnt vs) (hq : LB t.q) (hv : ∀ a ∈ vs, LB a) (hx : ∀ a ∈ xs, LB a) (c0 : 0 ≤ cn) (c1 : cn ≤ 1000000) {k : U → Heap → Prop}
  (hk : ∀ z, z = cn + 1 → ∀ x1 x2, k (uR4 (evT vs xs t)) [some o, some (.row 3 (vs.map qU)), some (.cells [.s 7 cs, .s 1 nds, qsU xs, .sl 1 n n 3, ui z]), x1, x2]) : E2 49 [.ptr 2 0, .agg (tU t)] [some o, some (.row 3 (vs.map qU)), some (.cells [.s 7 cs, .s 1 nds, qsU xs, .sl 1 n n 3, ui cn])] k := by
 refine hE 49 Tryz.f49 (by simp) _ _ _ ?_
 have hvm := fun i (h0 : 0 ≤ i) (h1 : i < cnt vs) => nth_map (c := vs) qU h0 h1
 have hxm := fun i (h0 : 0 ≤ i) (h1 : i < cnt xs) => nth_map (c := xs) qU h0 h1
 have hc := term_cases ht
 have hvL := fun a (h : a ∈ vs) => hv a h
 obtain ⟨kd, ta, tb, m, s, l, d⟩ := t
 dsimp only at hc hr hq
 unfold qsU at *
 generalize hvr : vs.map qU = vr at *
 generalize hxr : xs.map qU = xr at *
 clear ht hvr hxr
 cbv
 (repeat ((first | refine ln fun _ _ _ => ?_ | refine tt ?_ | refine ff ?_ | refine wr fun _ _ => ?_ | refine rp fun _ _ _ => ?_ | with_reducible refine bq ?_ | refine cl ?_ | refine sd ?_ | intro _ _); cbv))
 refine h0 87 Tryz.f87 (by simp) _ _ _ ?_
 cbv
 rcases hc with h | ⟨h, h2⟩ | ⟨h, h2, h3⟩ | ⟨h, h2⟩ | ⟨h, h2, h3⟩
 ·subst h
  obtain ⟨s7, l7, d7, k1, ek⟩ := tR (kT.o _ _ ⟨(s, l, d), hq, rfl, rfl⟩)
  rw [show evT vs xs ⟨1, ta, tb, m, (s, l, d)⟩ = (s7, l7, d7, 0) by show to4 (ownS (s, l, d)) = _; rw [← ek]; rfl] at hk
  clear ek kT hv hx hvm hxm hvL hq
  (repeat ((first | refine tt ?_ | refine wr fun _ _ => ?_ | refine cl ?_); cbv))
  exact hk _ (by assumption) _ _
 ·subst h
  obtain ⟨⟨s1, l1, d1⟩, v1, w1⟩ := hxm m h2 (hr rfl)
  obtain ⟨s7, l7, d7, k1, ek⟩ := tR (kT.o _ _ ⟨(s1, l1, d1), hx _ (List.mem_of_getElem? v1), rfl, rfl⟩)
  rw [show evT vs xs ⟨2, ta, tb, m, (s, l, d)⟩ = (s7, l7, d7, 0) by show to4 (ownS (at3 xs m)) = _; rw [at3_of v1, ← ek]; rfl] at hk
  clear ek kT hv hx hvm hxm hvL hq v1
  (repeat ((first | refine tt ?_ | refine ff ?_ | refine wr fun _ _ => ?_); cbv))
  refine el ?_ (by omega) w1
  cbv
  (repeat ((refine cl ?_); cbv))
  exact hk _ (by assumption) _ _
 ·obtain ⟨⟨s1, l1, d1⟩, v1, w1⟩ := hvm ta h2.1 (by omega)
  obtain ⟨⟨s2, l2, d2⟩, v2, w2⟩ := hvm tb h3.1 (by omega)
  rcases h with h | h | h | h
  ·subst h
   obtain ⟨s7, l7, d7, e7, k1, ek⟩ := tR4 (kT.a _ _ ⟨(s1, l1, d1), (s2, l2, d2), hv _ (List.mem_of_getElem? v1), hv _ (List.mem_of_getElem? v2), rfl, rfl⟩)
   rw [show evT vs xs ⟨3, ta, tb, m, (s, l, d)⟩ = (s7, l7, d7, e7) by show addS (at3 vs ta) (at3 vs tb) = _; rw [at3_of v1, at3_of v2, ek]] at hk
   clear ek kT hv hx hvm hxm hvL hq v1 v2
   (repeat ((first | refine tt ?_ | refine ff ?_ | refine wr fun _ _ => ?_ | refine sd ?_); cbv))
   refine el ?_ (by omega) w1
   cbv
   (repeat ((refine sd ?_); cbv))
   refine el ?_ (by omega) w2
   cbv
   (repeat ((refine cl ?_); cbv))
   exact hk _ (by assumption) _ _
  ·subst h
   obtain ⟨s7, l7, d7, e7, k1, ek⟩ := tR4 (kT.s _ _ ⟨(s1, l1, d1), (s2, l2, d2), hv _ (List.mem_of_getElem? v1), hv _ (List.mem_of_getElem? v2), rfl, rfl⟩)
   rw [show evT vs xs ⟨4, ta, tb, m, (s, l, d)⟩ = (s7, l7, d7, e7) by show subS (at3 vs ta) (at3 vs tb) = _; rw [at3_of v1, at3_of v2, ek]] at hk
   clear ek kT hv hx hvm hxm hvL hq v1 v2
   (repeat ((first | refine tt ?_ | refine ff ?_ | refine wr fun _ _ => ?_ | refine sd ?_); cbv))
   refine el ?_ (by omega) w1
   cbv
   (repeat ((refine sd ?_); cbv))
   refine el ?_ (by omega) w2
   cbv
   (repeat ((refine cl ?_); cbv))
   exact hk _ (by assumption) _ _
  ·subst h
   obtain ⟨s7, l7, d7, e7, k1, ek⟩ := tR4 (kT.m _ _ ⟨(s1, l1, d1), (s2, l2, d2), hv _ (List.mem_of_getElem? v1), hv _ (List.mem_of_getElem? v2), rfl, rfl⟩)
   rw [show evT vs xs ⟨5, ta, tb, m, (s, l, d)⟩ = (s7, l7, d7, e7) by show mulS (at3 vs ta) (at3 vs tb) = _; rw [at3_of v1, at3_of v2, ek]] at hk
   clear ek kT hv hx hvm hxm hvL hq v1 v2
   (repeat ((first | refine tt ?_ | refine ff ?_ | refine wr fun _ _ => ?_ | refine sd ?_); cbv))
   refine el ?_ (by omega) w1
   cbv
   (repeat ((refine sd ?_); cbv))
   refine el ?_ (by omega) w2
   cbv
   (repeat ((refine cl ?_); cbv))
   exact hk _ (by assumption) _ _
  ·subst h
   obtain ⟨s7, l7, d7, e7, k1, ek⟩ := tR4 (kT.d _ _ ⟨(s1, l1, d1), (s2, l2, d2), hv _ (List.mem_of_getElem? v1), hv _ (List.mem_of_getElem? v2), rfl, rfl⟩)
   rw [show evT vs xs ⟨6, ta, tb, m, (s, l, d)⟩ = (s7, l7, d7, e7) by show divS (at3 vs ta) (at3 vs tb) = _; rw [at3_of v1, at3_of v2, ek]] at hk
   clear ek kT hv hx hvm hxm hvL hq v1 v2
   (repeat ((first | refine tt ?_ | refine ff ?_ | refine wr fun _ _ => ?_ | refine sd ?_); cbv))
   refine el ?_ (by omega) w1
   cbv
   (repeat ((refine sd ?_); cbv))
   refine el ?_ (by omega) w2
   cbv
   (repeat ((refine cl ?_); cbv))
   exact hk _ (by assumption) _ _
 ·subst h
  obtain ⟨⟨s1, l1, d1⟩, v1, w1⟩ := hvm ta h2.1 (by omega)
  obtain ⟨s7, l7, d7, k1, ek⟩ := tR (kT.n _ _ ⟨(s1, l1, d1), hv _ (List.mem_of_getElem? v1), rfl, rfl⟩)
  rw [show evT vs xs ⟨7, ta, tb, m, (s, l, d)⟩ = (s7, l7, d7, 0) by show to4 (negS (at3 vs ta)) = _; rw [at3_of v1, ← ek]; rfl] at hk
  clear ek kT hv hx hvm hxm hvL hq v1
  (repeat ((first | refine tt ?_ | refine ff ?_ | refine wr fun _ _ => ?_ | refine sd ?_); cbv))
  refine el ?_ (by omega) w1
  cbv
  (repeat ((refine cl ?_); cbv))
  exact hk _ (by assumption) _ _
 ·subst h
  obtain ⟨⟨s1, l1, d1⟩, v1, w1⟩ := hvm ta h2.1 (by omega)
  obtain ⟨s7, l7, d7, e7, k1, ek⟩ := tR4 (kT.p _ _ ⟨(s1, l1, d1), m, hv _ (List.mem_of_getElem? v1), by omega, by omega, rfl, rfl⟩)
  rw [show evT vs xs ⟨8, ta, tb, m, (s, l, d)⟩ = (s7, l7, d7, e7) by show powS (at3 vs ta) m = _; rw [at3_of v1, ek]] at hk
  clear ek kT hv hx hvm hxm hvL hq v1
  (repeat ((first | refine ff ?_ | refine wr fun _ _ => ?_ | refine sd ?_); cbv))
  refine el ?_ (by omega) w1
  cbv
  (repeat ((refine cl ?_); cbv))
  exact hk _ (by assumption) _ _
theorem mark_keep {j : Nat} : ∀ {ks : List Int} {s : List Bool}, s[j]? = some true → (mark s ks)[j]? = some true
 | [], s, h => h
 | k :: ks, s, h => by
  show (mark (s.set k.toNat true) ks)[j]? = some true
  refine mark_keep ?_
  rw [List.getElem?_set]
  split
  ·rename_i e
   have : j < s.length := (List.getElem?_eq_some_iff.1 h).1
   rw [if_pos (by omega)]
  ·exact h
theorem down_keep {c : List Tm} {j : Nat} : ∀ {i : Nat} {s : List Bool}, s[j]? = some true → (down c i s)[j]? = some true
 | 0, s, h => h
 | i + 1, s, h => by
  unfold down
  refine down_keep ?_
  split
  ·exact mark_keep h
  ·exact h
theorem needs_root {c : List Tm} {i : Int} (h0 : 0 ≤ i) (h1 : i < cnt c) : (needs c i.toNat)[i.toNat]? = some true := by
 unfold needs
 refine down_keep ?_
 unfold cnt at h1
 rw [List.getElem?_set, if_pos rfl, if_pos (by rw [List.length_replicate]; omega)]
theorem ev_no {c : List Tm} {xs vs : List R3} {nd : List Bool} {q : Int} (h0 : 0 ≤ q) (h : evN c xs nd q.toNat = (vs, 0)) (hb : nd[q.toNat]? = some false) : evN c xs nd (q + 1).toNat = (vs, 0) := by
 rw [show (q + 1).toNat = q.toNat + 1 by omega, evN, h, if_pos rfl, evStep, hb, if_neg (by simp)]
theorem ev_yes {c : List Tm} {xs vs : List R3} {nd : List Bool} {q e : Int} {s : Bool} {l d : List Int} {t : Tm} (h0 : 0 ≤ q) (h : evN c xs nd q.toNat = (vs, 0)) (hb : nd[q.toNat]? = some true) (ht : c[q.toNat]? = some t) (he : (s, l, d, e) = evT vs xs t) : evN c xs nd (q + 1).toNat = if e = 0 then (vs.set q.toNat (s, l, d), 0) else (vs, e) := by
 rw [show (q + 1).toNat = q.toNat + 1 by omega, evN, h, if_pos rfl, evStep, if_pos hb, ht]
 simp only [← he]
 rfl
theorem ev_err {c : List Tm} {xs vs : List R3} {nd : List Bool} {q i e : Int} (h0 : 0 ≤ q) (h1 : q ≤ i) (he : e ≠ 0) (h : evN c xs nd (q + 1).toNat = (vs, e)) : evN c xs nd (i.toNat + 1) = (vs, e) := by
 have := evN_stop (c := c) (xs := xs) (nd := nd) (i := (q + 1).toNat) (by rw [h]; exact he) (i - q).toNat
 rw [show (q + 1).toNat + (i - q).toNat = i.toNat + 1 by omega] at this
 rw [this, h]
def ofR (us : List U) (u : U) : Prop := ∃ c i xs, (∀ t ∈ c, LB t.q) ∧ cnt c ≤ 1000000 ∧ (∀ a ∈ xs, LB a) ∧ cnt xs ≤ 1000000 ∧ us = [cU c, ui i, qsU xs] ∧ u = uR4 (ofS c i xs)
theorem of_ok : SoundF Tryz.prog 22 ofR := sound3 [(35, needsR), (86, goodR), (88, ownR), (89, twoR addS), (90, twoR subS), (91, twoR mulS), (92, twoR divS), (69, rNegR), (93, powOfR)] [(48, Tryz.f48), (49, Tryz.f49), (87, Tryz.f87), (50, Tryz.f50)] (orc_cons needs_ok (orc_cons good_ok (orc_cons own_ok (orc_cons rAdd_ok (orc_cons rSub_ok (orc_cons rMul_ok (orc_cons rDiv_ok (orc_cons rNeg_ok (orc_cons power_ok orc_nil))))))))) (ents_cons Tryz.func48 (by kernel_rfl) (by kernel_rfl) (ents_cons Tryz.func49 (by kernel_rfl) (by kernel_rfl) (ents_cons Tryz.func87 (by kernel_rfl) (by kernel_rfl) (ents_cons Tryz.func50 (by kernel_rfl) (by kernel_rfl) ents_nil)))) (nd_of (by simp)) Tryz.func22 (by kernel_rfl) (by kernel_rfl) fun us u hR => by
 obtain ⟨c, i, xs, hq, hn, hx, hxn, rfl, hu⟩ := hR
 obtain ⟨r, hr⟩ : ∃ r, (cnt c).toNat + (cnt xs).toNat + 10 < r := ⟨_, Nat.lt_succ_self _⟩
 refine ⟨r, fun C E0 E1 E2 E hC hE0 hE1 hE2 => ?_⟩
 have hE1 : EnV r C E1 E2 := hE1
 have hE2 : EnV r C E2 E := hE2
 have kT : TermTold C := ⟨hC 88 ownR (by simp), hC 89 (twoR addS) (by simp), hC 90 (twoR subS) (by simp), hC 91 (twoR mulS) (by simp), hC 92 (twoR divS) (by simp), hC 69 rNegR (by simp), hC 93 powOfR (by simp)⟩
 have hmade := fun k => made_in (k := k) hE2 (hC 35 needsR (by simp)) (hC 86 goodR (by simp)) (i := i) hq hn hx hxn hr
 have hterm := fun (q : Int) t vs (o : Ob) nds n cn (ht : c[q.toNat]? = some t) => term_in (cs := c.map tU) (o := o) (nds := nds) (n := n) (cn := cn) hE1 hE2 kT (t := t) (i := q) (vs := vs) (xs := xs)
 have hload := hE2 50 Tryz.f50 (by simp)
 have hcn := fun i (h0 : 0 ≤ i) (h1 : i < cnt c) => nth_map (c := c) tU h0 h1
 have hc := cnt_map c tU
 have hc0 := cnt0 c
 have hx0 := cnt0 xs
 have hLv := LB_evN c xs (needs c i.toNat)
 have hlen := evN_len c xs (needs c i.toNat)
 have hnl := needs_len c i.toNat
 have hroot := fun (h0 : 0 ≤ i) (h1 : i < cnt c) => needs_root h0 h1
 have hok : goodC c = true → ∀ (q : Int) t, 0 ≤ q → c[q.toNat]? = some t → termOk t q = true := fun h q t h0 ht => by
  have := goodC_iff.1 h q.toNat t ht
  rwa [show (q.toNat : Int) = q by omega] at this
 have hrefs : refsB c (needs c i.toNat) (cnt xs) = true → ∀ (q : Int) t, 0 ≤ q → c[q.toNat]? = some t → (needs c i.toNat)[q.toNat]? = some true → t.k = 2 → t.n < cnt xs := fun h q t h0 ht hb => refs_iff.1 h q.toNat t ht hb
 have hno := fun q vs => ev_no (c := c) (xs := xs) (nd := needs c i.toNat) (q := q) (vs := vs)
 unfold ofS at hu
 clear kT hC hE1 hE2 hE0
 unfold cU qsU at *
 generalize c.map tU = cs at *
 generalize xs.map qU = xr at *
 have hmb : madeB c i xs = true → mayC c i = true ∧ refsB c (needs c i.toNat) (cnt xs) = true := fun h => by
  unfold madeB at h
  simp only [Bool.and_eq_true] at h
  exact ⟨h.1.1, h.2⟩
 have hmay : mayC c i = true → 0 ≤ i ∧ i < cnt c ∧ goodC c = true := fun h => by
  unfold mayC at h
  simp only [Bool.and_eq_true, decide_eq_true_eq] at h
  exact ⟨h.1.1, h.1.2, h.2⟩
 generalize needs c i.toNat = nd at *
 have hnx := fun j (h0 : 0 ≤ j) (h1 : j < cnt nd) => uB_nth (s := nd) h0 h1
 generalize uB nd = nds at *
 generalize madeB c i xs = mb at *
 obtain ⟨v0, hv0⟩ : ∃ v0, v0 = (List.replicate c.length none3).map qU := ⟨_, rfl⟩
 obtain ⟨n, hnn⟩ : ∃ n, n = cnt c := ⟨_, rfl⟩
 rw [← hv0, ← hnn] at hmade
 cbv
 (repeat ((first | refine ln fun _ _ _ => ?_ | refine tt ?_ | refine ff ?_ | refine wr fun _ _ => ?_ | refine rp fun _ _ _ => ?_ | with_reducible refine bq ?_ | refine cl ?_ | refine sd ?_ | intro _ _); cbv))
 cases mb
 ·rw [if_neg (by simp)] at hu
  refine hmade _ (fun h => by cases h) (fun _ h => ?_)
  clear hmade hterm hload hcn hno hLv hlen hnx hrefs hok hroot
  cbv
  (repeat ((with_reducible refine bq ?_); cbv))
  exact hu.symm
 rw [if_pos rfl] at hu
 obtain ⟨hmay2, hrf⟩ := hmb rfl
 obtain ⟨hi0, hi1, hgc⟩ := hmay hmay2
 have hroot := hroot hi0 hi1
 have hok := hok hgc
 have hrefs := hrefs hrf
 refine hmade _ (fun _ => ?_) (fun h => by cases h)
 clear hmade hmay hmb hmay2 hrf hgc
 cbv
 (repeat ((first | refine wr fun _ _ => ?_ | with_reducible refine bq ?_); cbv))
 rename_i e he
 refine lets [0, 1, 6, 8, 24, 25] ?_
 cbv
 refine loop_inv (fun j a h => ∃ (q : Int) (vs : List R3) (vr : Rows) (cn : Int), 0 ≤ q ∧ q ≤ i + 1 ∧ j = (i + 1 - q).toNat ∧ evN c xs nd q.toNat = (vs, 0) ∧ vr = vs.map qU ∧ 0 ≤ cn ∧ cn ≤ q ∧ (q = i + 1 → 1 ≤ cn) ∧ a = [.s 7 cs, ui i, .lost, .lost, .lost, .lost, .ptr 0 0, .lost, .ptr 2 0, .lost, .lost, .lost, .lost, .lost, .lost, .lost, .lost, .lost, .lost, .lost, .lost, .lost, .lost, .lost, ui e, ui q, .lost, .lost, .lost, .lost, .lost, .lost, .lost, .lost, .lost, .lost, .lost, .lost, .lost, .lost, .lost, .lost, .lost, .lost, .lost, .lost, .lost, .lost, .lost, .lost, .lost, .lost, .lost, .lost, .lost, .lost, .lost, .lost, .lost, .lost, .lost, .lost, .lost, .lost, .lost, .lost, .lost, .lost, .lost, .lost] ∧ h = [some (.cells [ub false, .l [], .l []]), some (.row 3 vr), some (.cells [.s 7 cs, .s 1 nds, .s 3 xr, .sl 1 n n 3, ui cn])]) ?_ r (i + 1).toNat _ _ (by omega) ⟨0, List.replicate c.length none3, v0, 0, by omega, by omega, by omega, rfl, hv0, by omega, by omega, fun h => absurd h (by omega), rfl, rfl⟩
 rintro j a h K ⟨q, vs, vr, cn, q0, q1, hj, hev, hvr, c0, c1, c2, rfl, rfl⟩ hK
 have hvl : cnt vs = cnt c := by
  have := hlen q.toNat
  rw [hev] at this
  unfold cnt
  rw [this]
 rcases Decidable.em (q < i + 1) with hlt | hlt
 ·obtain ⟨b, hb, hz⟩ := hnx q q0 (by omega)
  obtain ⟨t, ht, hy⟩ := hcn q q0 (by omega)
  cases b
  ·have hnext := hno q vs q0 hev hb
   have hqi : q ≠ i := fun h => by
    rw [h, hroot] at hb
    injection hb with hb
    cases hb
   cbv
   (repeat ((refine tt ?_); cbv))
   refine el ?_ (by omega) hz
   cbv
   (repeat ((first | refine wr fun _ _ => ?_ | with_reducible refine bq ?_); cbv))
   rename_i q' hq'
   refine lets [0, 1, 6, 8, 24, 25] ?_
   exact hK (i + 1 - (q + 1)).toNat _ _ (by omega) ⟨q + 1, vs, vr, cn, by omega, by omega, rfl, hnext, hvr, c0, by omega, fun h => absurd h (by omega), by rw [hq']; rfl, rfl⟩
  ·have hvL : ∀ a ∈ vs, LB a := by
    have := hLv q.toNat
    rw [hev] at this
    exact this
   have h3 := fun k => hterm q t vs (.cells [ub false, .l [], .l []]) nds n cn ht (hok q t q0 ht) (by omega) (fun h => hrefs q t q0 ht hb h) (by omega) (hq t (List.mem_of_getElem? ht)) hvL hx c0 (by omega) (k := k)
   obtain ⟨s7, l7, d7, e7, ek⟩ : ∃ s l d e, (s, l, d, e) = evT vs xs t := ⟨_, _, _, _, rfl⟩
   rw [← ek, ← hvr] at h3
   have hnext := ev_yes q0 hev hb ht ek
   have hvx := nth_map (c := vs) qU q0 (by omega)
   obtain ⟨⟨s1, l1, d1⟩, w1, w2⟩ := hvx
   rw [← hvr] at w2
   obtain ⟨kd, ta, tb, m, s, l, d⟩ := t
   clear hterm hno hlen hLv hrefs hok hroot hload hcn hnx hvL
   cbv
   (repeat ((refine tt ?_); cbv))
   refine el ?_ (by omega) hz
   cbv
   (repeat ((with_reducible refine bq ?_); cbv))
   refine el ?_ (by omega) hy
   cbv
   (repeat ((first | refine ln fun _ _ _ => ?_ | refine tt ?_ | refine ff ?_ | refine wr fun _ _ => ?_ | refine rp fun _ _ _ => ?_ | with_reducible refine bq ?_ | refine cl ?_ | refine sd ?_ | intro _ _); cbv))
   refine h3 _ fun z hz' x1 x2 => ?_
   clear h3
   cbv
   rcases Decidable.em (e7 = 0) with h0 | h0
   ·subst h0
    rw [if_pos rfl] at hnext
    (repeat ((first | refine ff ?_ | refine sd ?_); cbv))
    refine el ?_ (by omega) w2
    cbv
    refine se fun ys he' hyc => ?_
    have e2 : ys = (vs.set q.toNat (s7, l7, d7)).map qU := by rw [he', List.map_set, ← hvr]; rfl
    clear he' hyc
    cbv
    (repeat (((refine wr fun _ _ => ?_)); cbv))
    rename_i q' hq'
    refine lets [0, 1, 6, 8, 24, 25] ?_
    exact hK (i + 1 - (q + 1)).toNat _ _ (by omega) ⟨q + 1, _, ys, z, by omega, by omega, rfl, hnext, e2, by omega, by omega, fun h => by omega, by rw [hq']; rfl, rfl⟩
   ·rw [if_neg h0] at hnext
    rw [ev_err q0 (by omega) h0 hnext, if_neg h0] at hu
    clear hnext hK
    (repeat ((refine tt ?_); cbv))
    exact hu.symm
 ·rw [show q.toNat = i.toNat + 1 by omega] at hev
  obtain ⟨⟨s1, l1, d1⟩, w1, w2⟩ := nth_map (c := vs) qU hi0 (by omega)
  rw [← hvr] at w2
  rw [hev, if_pos rfl, at3_of w1] at hu
  have c2 := c2 (by omega)
  clear hterm hno hlen hLv hrefs hok hroot hcn hnx hK
  cbv
  (repeat ((refine ff ?_); cbv))
  refine hload _ _ _ ?_
  cbv
  (repeat ((first | refine ff ?_ | refine sd ?_); cbv))
  refine el ?_ (by omega) w2
  cbv
  (repeat ((first | refine ln fun _ _ _ => ?_ | refine tt ?_ | refine ff ?_ | refine wr fun _ _ => ?_ | refine rp fun _ _ _ => ?_ | with_reducible refine bq ?_ | refine cl ?_ | refine sd ?_ | intro _ _); cbv))
  exact hu.symm
def in64 (x : Int) : Prop := -9223372036854775808 ≤ x ∧ x ≤ 9223372036854775807
structure TmOk (t : Tm) : Prop where
 k : in64 t.k
 a : in64 t.a
 b : in64 t.b
 n : in64 t.n
 q : LB t.q
theorem set_true {s : List Bool} {i j : Nat} : (s.set i true)[j]? = some true ↔ s[j]? = some true ∨ (j < s.length ∧ i = j) := by
 rw [List.getElem?_set]
 by_cases e : i = j
 ·rw [if_pos e]
  by_cases h : i < s.length
  ·rw [if_pos h]
   exact ⟨fun _ => .inr ⟨e ▸ h, e⟩, fun _ => rfl⟩
  ·rw [if_neg h]
   exact ⟨fun h => by (cases h), fun h' => by
    rcases h' with h' | h'
    ·have := (List.getElem?_eq_some_iff.1 h').1
     omega
    ·omega⟩
 ·rw [if_neg e]
  exact ⟨.inl, fun h => h.elim id fun h => absurd h.2 e⟩
theorem mark_true {j : Nat} : ∀ {ks : List Int} {s : List Bool}, (mark s ks)[j]? = some true ↔ s[j]? = some true ∨ (j < s.length ∧ ∃ k ∈ ks, k.toNat = j)
 | [], s => by
  show s[j]? = some true ↔ _
  simp
 | k :: ks, s => by
  show (mark (s.set k.toNat true) ks)[j]? = some true ↔ _
  rw [mark_true, set_true, List.length_set]
  constructor
  ·rintro ((h | h) | ⟨h, x, hx, e⟩)
   ·exact .inl h
   ·exact .inr ⟨h.1, k, List.mem_cons_self .., h.2⟩
   ·exact .inr ⟨h, x, List.mem_cons_of_mem _ hx, e⟩
  ·rintro (h | ⟨h, x, hx, e⟩)
   ·exact .inl (.inl h)
   ·rcases List.mem_cons.1 hx with rfl | hx
    ·exact .inl (.inr ⟨h, e⟩)
    ·exact .inr ⟨h, x, hx, e⟩
def Ahead (c : List Tm) : Prop := ∀ (j : Nat) t, c[j]? = some t → ∀ k ∈ kids t, 0 ≤ k ∧ k < (j : Int)
theorem ahead_of {c : List Tm} (h : goodC c = true) : Ahead c := fun j t ht k hk => kids_in (goodC_iff.1 h j t ht) k hk
theorem kidsAt_in {c : List Tm} (h : Ahead c) {j : Nat} {k : Int} (hk : k ∈ kidsAt c j) : 0 ≤ k ∧ k < (j : Int) := by
 unfold kidsAt at hk
 cases e : c[j]? with
 | none => rw [e] at hk; cases hk
 | some t => rw [e] at hk; exact h j t e k hk
theorem down_high {c : List Tm} (hc : Ahead c) {j : Nat} : ∀ (m : Nat) (s : List Bool), m ≤ j → ((down c m s)[j]? = some true ↔ s[j]? = some true)
 | 0, s, _ => Iff.rfl
 | m + 1, s, h => by
  unfold down
  rw [down_high hc m _ (by omega)]
  split
  ·rw [mark_true]
   exact ⟨fun h' => h'.elim id fun ⟨_, k, hk, e⟩ => by have := kidsAt_in hc hk; omega, .inl⟩
  ·exact Iff.rfl
theorem down_low {c : List Tm} (hc : Ahead c) {j : Nat} : ∀ (m : Nat) (s : List Bool), (down c m s)[j]? = some true → s[j]? = some true ∨ j + 1 < m
 | 0, s, h => .inl h
 | m + 1, s, h => by
  unfold down at h
  rcases down_low hc m _ h with h | h
  ·split at h
   ·rcases mark_true.1 h with h | ⟨_, k, hk, e⟩
    ·exact .inl h
    ·have := kidsAt_in hc hk
     exact .inr (by omega)
   ·exact .inl h
  ·exact .inr (by omega)
theorem needs_le {c : List Tm} (hc : Ahead c) {i j : Nat} (h : (needs c i)[j]? = some true) : j ≤ i := by
 unfold needs at h
 rcases down_low hc _ _ h with h | h
 ·rcases set_true.1 h with h | h
  ·rw [List.getElem?_replicate] at h
   split at h <;> cases h
  ·omega
 ·omega
theorem down_kid {c : List Tm} (hc : Ahead c) {j : Nat} {k : Int} (hk : k ∈ kidsAt c j) : ∀ (m : Nat) (s : List Bool), s.length = c.length → j < m → (down c m s)[j]? = some true → (down c m s)[k.toNat]? = some true
 | 0, s, _, h, _ => absurd h (by omega)
 | m + 1, s, hs, h, hd => by
  unfold down at hd ⊢
  by_cases e : j = m
  ·subst e
   rw [down_high hc j _ (Nat.le_refl _)] at hd
   have hsj : s[j]? = some true := by
    split at hd
    ·assumption
    ·exact hd
   rw [if_pos hsj]
   refine down_keep (mark_true.2 (.inr ⟨?_, k, hk, rfl⟩))
   have := (List.getElem?_eq_some_iff.1 hsj).1
   have := kidsAt_in hc hk
   omega
  ·refine down_kid hc hk m _ ?_ (by omega) hd
   split
   ·rw [mark_len, hs]
   ·exact hs
theorem needs_kid {c : List Tm} (hc : Ahead c) {i j : Nat} {t : Tm} {k : Int} (ht : c[j]? = some t) (hk : k ∈ kids t) (h : (needs c i)[j]? = some true) : (needs c i)[k.toNat]? = some true := by
 have hj := needs_le hc h
 unfold needs at h ⊢
 exact down_kid hc (by unfold kidsAt; rw [ht]; exact hk) _ _ (by rw [List.length_set, List.length_replicate]) (by omega) h
end Go.Proofs.YtjkcmnedolfkjaaGreat.Rd
end
section
namespace Go.Proofs.YtjkcmnedolfkjaaGreat.Num
open Go.ChangeShapes Go.WideShapes Go.ChangeAt Go.RowKit Go.Proofs.YtjkcmnedolfkjaaGreatW.PrintWords Go.Proofs.YtjkcmnedolfkjaaGreatW.PrintMore
set_option linter.unusedVariables false
theorem cellsU8 : Tryz.prog.cellsOf 5 = 1 := by kernel_rfl
theorem cellsA2 : Tryz.prog.cellsOf 61 = 2 := by kernel_rfl
theorem trod_array2 {H : Type} {enc : TypeId × Value → H} {P : Program} {w : World} {base : Nat} {spare : Nat → Bool} {held : Bool} {t e : TypeId} {fuel : Nat} {c0 c1 : Value} {x : DataW H × List MemPlace} (ht : P.underlying t = some (.array 2 e)) (hce : P.cellsOf e = 1)
  (h : DataW.trod enc P w base spare held fuel t [c0, c1] = some x) :
  ∃ y0 y1 n, DataW.trod enc P w base spare held n e [c0] = some y0 ∧ DataW.trod enc P w base spare held n e [c1] = some y1 := by
 cases fuel with
 | zero => simp [DataW.trod] at h
 | succ n =>
  unfold DataW.trod at h
  rw [ht] at h
  have r2 : List.range 2 = [0, 1] := rfl
  simp [r2, hce] at h
  obtain ⟨_, h⟩ := h
  cases h0 : DataW.trod enc P w base spare held n e [c0] with
  | none => simp [h0] at h
  | some y0 =>
   cases h1 : DataW.trod enc P w base spare held n e [c1] with
   | none => simp [h0, h1] at h
   | some y1 => exact ⟨y0, y1, n, h0, h1⟩
set_option maxRecDepth 100000 in
theorem open_two8u {H : Type} {enc : TypeId × Value → H} {W : World} {base b0 : Nat} {held : Bool} {r : Reach} {v : Value} {d : DataW H} {p : List MemPlace} (hv : Value.okWide Tryz.prog W r b0 61 v) (h : DataW.Trod enc Tryz.prog W base (fun _ => true) held 61 v d p) :
  ∃ x y : Int, v = .agg #[.int .u8 x, .int .u8 y] ∧ (Lit.int .u8 x).wf = true ∧ (Lit.int .u8 y).wf = true := by
 simp only [Value.okWide, Tryz.underlying61] at hv
 obtain ⟨cs, rfl, hsz, _⟩ := hv
 obtain ⟨c0, c1, rfl⟩ := Joins.array2 (hsz.trans cellsA2)
 obtain ⟨fuel, hf⟩ := h
 obtain ⟨y0, y1, n, h0, h1⟩ := trod_array2 Tryz.underlying61 cellsU8 hf
 obtain ⟨x, e0, _, w0⟩ := DataW.trod_int Tryz.underlying5 h0
 obtain ⟨y, e1, _, w1⟩ := DataW.trod_int Tryz.underlying5 h1
 simp at e0 e1
 subst e0 e1
 exact ⟨x, y, rfl, w0, w1⟩
theorem rep_two8u {W : World} (x y : Int) : Rd.Rep (fun k => k < W.heap.size) W Rd.noM (.agg [.v (.int .u8 x), .v (.int .u8 y)]) (.agg #[.int .u8 x, .int .u8 y]) :=
 ⟨[.int .u8 x, .int .u8 y], rfl, ⟨rfl, rfl, trivial⟩, by
  intro v hv
  simp only [List.mem_cons, List.not_mem_nil, or_false] at hv
  rcases hv with rfl | rfl <;> rfl⟩
end Go.Proofs.YtjkcmnedolfkjaaGreat.Num
end
section
set_option linter.unusedVariables false
set_option linter.unusedSimpArgs false
namespace Go.Proofs.YtjkcmnedolfkjaaGreat.Rd
open Go Go.RowKit Go.Proofs.YtjkcmnedolfkjaaGreatW.PrintWords Go.Conc.Locks

def muLink : MuLink := { lock := 135, unlock := 136, ilock := 148, iunlock := 149, lockSlow := 166, unlockSlow := 169, disable := 162, enable := 164, acquire := 165, relMerge := 167, cas32 := 163, add32 := 168, tMutex := 94, tIMutex := 92, tPMutex := 169, tPIMutex := 180, tPI32 := 182, tUP := 184, tNoCopy := 86, tU32 := 88 }
theorem muLib : MuLib Tryz.prog muLink :=
 ⟨Tryz.func135, Tryz.func136, Tryz.func148, Tryz.func149, Tryz.func162, Tryz.func164, Tryz.func165, Tryz.func167, Tryz.func163, Tryz.func168, Tryz.underlying92, Tryz.runUnderlying92, Tryz.sizeOf92, Tryz.isAgg92, Tryz.zeroValue92, Tryz.underlying94, Tryz.runUnderlying94, Tryz.sizeOf94, Tryz.isAgg94, Tryz.zeroValue94, Tryz.underlying169, Tryz.runUnderlying169, Tryz.sizeOf169, Tryz.isAgg169, Tryz.zeroValue169, Tryz.underlying180, Tryz.runUnderlying180, Tryz.sizeOf180, Tryz.isAgg180, Tryz.zeroValue180, Tryz.underlying182, Tryz.runUnderlying182, Tryz.sizeOf182, Tryz.isAgg182, Tryz.zeroValue182, Tryz.underlying184, Tryz.runUnderlying184, Tryz.sizeOf184, Tryz.isAgg184, Tryz.zeroValue184, Tryz.underlying86, Tryz.runUnderlying86, Tryz.sizeOf86, Tryz.isAgg86, Tryz.zeroValue86, Tryz.underlying21, Tryz.runUnderlying21, Tryz.sizeOf21, Tryz.isAgg21, Tryz.zeroValue21, (by kernel_rfl)⟩
theorem store_deferred (a : Addr) (x : Value) (u : FrameMode) (w : World) (hc : w.cell? a = some x) (hz : w.frozen? a = false) :
  CallsD Tryz.prog 137 #[.pointer (some a), .bool true] u w fun e u' w' => u' = u ∧ (e = .returned (.tuple #[]) ∧ w' = w.drew.setCell a (.int .u32 1)) := by
 have hc' : w.drew.cell? a = some x := by go_simp
 have hz' : w.drew.frozen? a = false := by go_simp
 have hst := run_call_store (P := Tryz.prog) Tryz.func150 (by kernel_rfl) (by kernel_rfl) (by kernel_rfl) (by kernel_rfl) (k := .u32) (y := 1) hc' hz'
 go_enter_d Tryz.func137, Tryz.ntmps137
 go_wp2
 go_region_calls
 all_goals (go_end0; exact ⟨rfl, rfl⟩)
set_option maxRecDepth 100000 in
set_option maxHeartbeats 1600000 in
/-- not done, the lock free -/
theorem slow_in (b off : Nat) (g : FuncId) (vs : Array Value) (w : World) (hB : HasBody Tryz.prog g) (QQ : World → Prop)
  (h0 : w.cell? ⟨b, off, none⟩ = some (.int .u32 0)) (h1 : w.cell? ⟨b, off + 1, none⟩ = some (.int .i32 0)) (f1 : w.frozen? ⟨b, off + 1, none⟩ = false)
  (hg : Calls Tryz.prog g vs (w.setCell ⟨b, off + 1, none⟩ (.int .i32 1)) fun e w' => (∃ v, e = .returned v) ∧ w'.cell? ⟨b, off, none⟩ = some (.int .u32 0) ∧ w'.cell? ⟨b, off + 1, none⟩ = some (.int .i32 1) ∧ w'.frozen? ⟨b, off, none⟩ = false ∧ w'.frozen? ⟨b, off + 1, none⟩ = false ∧ QQ w') :
  Calls Tryz.prog 112 #[.pointer (some ⟨b, off, none⟩), .func (.func g) #[] vs] w fun e w' => e = .returned (.tuple #[]) ∧ ∃ w1, QQ w1 ∧ w1.cell? ⟨b, off, none⟩ = some (.int .u32 0) ∧ w1.cell? ⟨b, off + 1, none⟩ = some (.int .i32 1) ∧ w' = (w1.drew.setCell ⟨b, off, none⟩ (.int .u32 1)).setCell ⟨b, off + 1, none⟩ (.int .i32 0) := by
 have hl := run_call_load (P := Tryz.prog) Tryz.func134 (by kernel_rfl) (by kernel_rfl) (by kernel_rfl) .u32 (by kernel_rfl) (w := w.setCell ⟨b, off + 1, none⟩ (.int .i32 1)) (a := ⟨b, off, none⟩) (x := 0) ((World.cell?_setCell_other _ ⟨b, off + 1, none⟩ ⟨b, off, none⟩ _ (by simp)).trans h0)
 have hnot : ∀ (x : Bool) (w : World), (Op.unary .not (.bool x)).run Tryz.prog w = .ok (.bool (!x)) w := fun _ _ => rfl
 obtain ⟨gn, gb, g1, g2, g3⟩ := hB
 have hin := fun args w => Go.MuLone.run_callFunc_enter (P := Tryz.prog) g1 g2 g3 args w
 go_enter_defers Tryz.func112, Tryz.ntmps112
 go_wp2_with (go_at_call 135; refine (Go.MuLone.lock_free muLib ⟨b, off + 1, none⟩ _ (by go_simp) (by go_simp)).mono ?_; rintro e w' ⟨rfl, rfl⟩)
 go_wp2
 refine hg.mono ?_
 rintro e w' ⟨⟨v, rfl⟩, q0, q1, z0, z1, hq⟩
 go_wp2
 refine leaves_cons (f := 137) (args := #[.pointer (some ⟨b, off, none⟩), .bool true]) (by simp) (by simp [go_sem]) ?_
 refine (store_deferred ⟨b, off, none⟩ (.int .u32 0) .returning _ q0 z0).mono ?_
 rintro e u' w'' ⟨rfl, rfl, rfl⟩
 refine leaves_cons (f := 136) (args := #[.pointer (some ⟨b, off + 1, none⟩)]) (by simp [settle]) (by simp [go_sem]) ?_
 refine (Go.MuLone.unlock_deferred muLib ⟨b, off + 1, none⟩ _ _ ?_ (by simp [z1])).mono ?_
 ·refine (World.cell?_setCell_other _ ⟨b, off, none⟩ ⟨b, off + 1, none⟩ _ (by simp)).trans ?_
  rw [World.cell?_drew]
  exact q1
 rintro e u' w'' ⟨rfl, rfl, rfl⟩
 simp [Leaves, settle, results, Tryz.results112]
 exact ⟨w', hq, q0, q1, rfl⟩
set_option maxRecDepth 100000 in
set_option maxHeartbeats 1600000 in
theorem do_in (b off : Nat) (g : FuncId) (vs : Array Value) (w : World) (hB : HasBody Tryz.prog g) (QQ : World → Prop)
  (h0 : w.cell? ⟨b, off, none⟩ = some (.int .u32 0)) (h1 : w.cell? ⟨b, off + 1, none⟩ = some (.int .i32 0)) (f1 : w.frozen? ⟨b, off + 1, none⟩ = false)
  (hg : Calls Tryz.prog g vs (w.setCell ⟨b, off + 1, none⟩ (.int .i32 1)) fun e w' => (∃ v, e = .returned v) ∧ w'.cell? ⟨b, off, none⟩ = some (.int .u32 0) ∧ w'.cell? ⟨b, off + 1, none⟩ = some (.int .i32 1) ∧ w'.frozen? ⟨b, off, none⟩ = false ∧ w'.frozen? ⟨b, off + 1, none⟩ = false ∧ QQ w') :
  Calls Tryz.prog 78 #[.pointer (some ⟨b, off, none⟩), .func (.func g) #[] vs] w fun e w' => e = .returned (.tuple #[]) ∧ ∃ w1, QQ w1 ∧ w1.cell? ⟨b, off, none⟩ = some (.int .u32 0) ∧ w1.cell? ⟨b, off + 1, none⟩ = some (.int .i32 1) ∧ w' = (w1.drew.setCell ⟨b, off, none⟩ (.int .u32 1)).setCell ⟨b, off + 1, none⟩ (.int .i32 0) := by
 have hl := run_call_load (P := Tryz.prog) Tryz.func134 (by kernel_rfl) (by kernel_rfl) (by kernel_rfl) .u32 (by kernel_rfl) h0
 have hnot : ∀ (x : Bool) (w : World), (Op.unary .not (.bool x)).run Tryz.prog w = .ok (.bool (!x)) w := fun _ _ => rfl
 go_enter Tryz.func78, Tryz.ntmps78
 go_wp2_with (first | (go_at_call 112; refine (slow_in b off g vs _ hB QQ h0 h1 f1 hg).mono ?_; rintro e w' ⟨rfl, h⟩) | (go_at_call 111; go_in))
 go_end0
 exact ⟨rfl, h⟩
theorem setc {m : Map} {base : Nat} {S : Nat → Prop} {W : World} {H : Heap} {id b j : Nat} {ws : List U} {u0 : U} (hp : Hp m S base W (look H)) (hws : heapAt H id = some (.cells ws)) (hb : m id = some b) (hj : ws[j]? = some u0) (x : Value) (hx : x.oneCell' = true) :
  Hp m S base (W.setCell ⟨b, j, none⟩ x) (look (H.set id (some (.cells (ws.set j (.v x)))))) ∧ Goes m (own m (look H)) W m (own m (look (H.set id (some (.cells (ws.set j (.v x))))))) (W.setCell ⟨b, j, none⟩ x) ∧ W.frozen? ⟨b, j, none⟩ = false := by
 obtain ⟨b', vs, te, g1, g2, g3, g4⟩ := hp.at_ id _ hws
 rw [hb] at g1
 injection g1 with g1
 subst g1
 obtain ⟨v, f1, f2⟩ := Reps.nth g3 hj
 have e : W.setCell ⟨b, j, none⟩ x = W.setRow b (vs.set j x).toArray := by
  rw [setCell_eq_setRow W b j _ te (0, 0) _ g2, show vs.toArray.setIfInBounds j x = (vs.set j x).toArray by simp]
 have g := Goes.write (W' := W.setRow b (vs.set j x).toArray) (ob := .cells (ws.set j (.v x))) (show look H id _ from hws) hb (fun k hk => setRow_other W b k _ hk) (by simp) rfl rfl rfl
 have hr : (Ob.cells (ws.set j (.v x))).rep (okOf base S (own m (look H))) W m (vs.set j x) := by
  have := Reps.put g3 (cs := [.v x]) (ws := [x]) ⟨rfl, trivial⟩ j
  have hlt := (List.getElem?_eq_some_iff.1 hj).1
  have hlt' := (List.getElem?_eq_some_iff.1 f1).1
  show Reps _ _ _ (ws.set j _) _
  rw [List.set_eq_take_append_cons_drop, if_pos hlt, List.set_eq_take_append_cons_drop, if_pos hlt']
  simpa using this
 have p := hp.write (show look H id _ from hws) hb hr (fun v hv => by
  rcases List.mem_or_eq_of_mem_set hv with h | rfl
  ·exact g4 v h
  ·exact hx) (setRow_heap W b _ _ _ _ g2) g (fun k hk => setRow_other W b k _ hk)
 rw [look_set (show look H id _ from hws)] at g p
 rw [e]
 exact ⟨p, g, frozen_own g2⟩
def doR (g : FuncId) (RC : HR) : HR := fun us h k => ∃ id off cs ws, us = [.ptr id off, .clo g cs] ∧ heapAt h id = some (.cells ws) ∧ ws[off]? = some (.v (.int .u32 0)) ∧ ws[off + 1]? = some (.v (.int .i32 0)) ∧
 RC cs (h.set id (some (.cells (ws.set (off + 1) (.v (.int .i32 1)))))) fun _ h' => ∃ ws', heapAt h' id = some (.cells ws') ∧ ws'[off]? = some (.v (.int .u32 0)) ∧ ws'[off + 1]? = some (.v (.int .i32 1)) ∧
  k (.tup []) (h'.set id (some (.cells ((ws'.set off (.v (.int .u32 1))).set (off + 1) (.v (.int .i32 0))))))
theorem do_ok {g : FuncId} {RC : HR} (hC : SoundH Tryz.prog g RC) : SoundH Tryz.prog 78 (doR g RC) := by
 refine ⟨⟨Tryz.f78, _, Tryz.func78, by kernel_rfl, rfl⟩, fun base S us H k hR m W vs hp hfr hbig hvs => ?_⟩
 obtain ⟨id, off, cs, ws, rfl, hws, h0, h1, hk⟩ := hR
 match vs, hvs with
 | [v1, v2], ⟨⟨b, r1, r2⟩, ⟨xs, r3, r4⟩, _⟩ =>
  subst r2 r3
  obtain ⟨x0, c0, q0, _⟩ := hp.cell (show look H id _ from hws) h0 r1
  obtain ⟨x1, c1, q1, _⟩ := hp.cell (show look H id _ from hws) h1 r1
  have q0 : x0 = _ := q0
  have q1 : x1 = _ := q1
  subst q0 q1
  obtain ⟨p1, g1, z1⟩ := setc hp hws r1 h1 (.int .i32 1) rfl
  have hcall := hC.2 base S cs _ _ hk m _ xs p1 (fun id hid => hfr id (by simpa using hid)) (Nat.le_trans hbig g1.size) (Reps.move g1.lasts _ _ r4)
  refine (do_in b off g xs.toArray W hC.1 (fun w1 => ∃ H1 m1 ws', heapAt H1 id = some (.cells ws') ∧ ws'[off]? = some (.v (.int .u32 0)) ∧ ws'[off + 1]? = some (.v (.int .i32 1)) ∧
   k (.tup []) (H1.set id (some (.cells ((ws'.set off (.v (.int .u32 1))).set (off + 1) (.v (.int .i32 0)))))) ∧ Hp m1 S base w1 (look H1) ∧ (∀ id, H1.length ≤ id → m1 id = none) ∧ Goes m (own m (look H)) W m1 (own m1 (look H1)) w1)
   c0 c1 z1 (hcall.mono fun e w' ⟨u, H1, m1, v, k1, k2, k3, k4, k5, k6⟩ => ?_)).mono fun e W' ⟨he, w1, ⟨H1, m1, ws', e1, e2, e3, e4, k4, k5, k6⟩, d0, d1, hw⟩ => ?_
  ·obtain ⟨ws', e1, e2, e3, e4⟩ := k1
   have hb := k6.map id b r1
   obtain ⟨y0, a0, s0, _⟩ := k4.cell (show look H1 id _ from e1) e2 hb
   obtain ⟨y1, a1, s1, _⟩ := k4.cell (show look H1 id _ from e1) e3 hb
   have s0 : y0 = _ := s0
   have s1 : y1 = _ := s1
   subst s0 s1
   exact ⟨⟨v, k2⟩, a0, a1, (setc k4 e1 hb e2 (.int .u32 1) rfl).2.2, (setc k4 e1 hb e3 (.int .u32 1) rfl).2.2, H1, m1, ws', e1, e2, e3, e4, k4, k5, g1.trans k6⟩
  ·have hb := k6.map id b r1
   have hg0 : Goes m1 (own m1 (look H1)) w1 m1 (own m1 (look H1)) w1.drew := ⟨fun _ _ h => h, fun _ h => .inl h, Nat.le_refl _, fun _ _ _ => rfl, rfl, rfl, rfl⟩
   have hp0 := k4.move (fun _ _ h => h) hg0 fun _ _ => rfl
   have hid := heapAt_lt e1
   obtain ⟨p2, g2, _⟩ := setc hp0 e1 hb e2 (.int .u32 1) rfl
   have e1' : heapAt (H1.set id (some (.cells (ws'.set off (.v (.int .u32 1)))))) id = some (.cells (ws'.set off (.v (.int .u32 1)))) := by rw [heapAt_set _ _ hid, if_pos rfl]
   have e3' : (ws'.set off (.v (.int .u32 1)))[off + 1]? = some (.v (.int .i32 1)) := by rw [List.getElem?_set, if_neg (by omega)]; exact e3
   obtain ⟨p3, g3, _⟩ := setc p2 e1' hb e3' (.int .i32 0) rfl
   rw [List.set_set] at p3 g3
   rw [hw]
   exact ⟨.tup [], _, m1, .tuple #[], e4, he, ⟨[], rfl, trivial⟩, p3, fun id hid => k5 id (by simpa using hid), k6.trans (hg0.trans (g2.trans g3))⟩
 | [], hvs => exact hvs.elim
 | [_], hvs => exact hvs.2.elim
 | _ :: _ :: _ :: _, hvs => exact hvs.2.2.elim
end Go.Proofs.YtjkcmnedolfkjaaGreat.Rd
end
section
set_option linter.unusedVariables false
set_option linter.unusedSimpArgs false
set_option maxRecDepth 100000
set_option maxHeartbeats 4000000
namespace Go.Proofs.YtjkcmnedolfkjaaGreat.Rd
open Go Go.RowKit Go.Proofs.YtjkcmnedolfkjaaGreatW.PrintWords Go.Proofs.YtjkcmnedolfkjaaGreat.PL Go.Proofs.YtjkcmnedolfkjaaGreat.Num

def uN (l : List Int) : Rows := l.map fun x => [ui x]
def mkT (k a b n : Int) : Tm := ⟨k, a, b, n, none3⟩
def litT (v : Int) : Tm := ⟨1, 0, 0, 0, ratOf (v : Rat)⟩
structure Row7 (c : List Tm) (n cp : Int) (xs : Rows) : Prop where
 en : n = cnt c
 tk : xs.take n.toNat = c.map tU
 ec : cp = cnt xs
 le : n ≤ cp
theorem Row7.app {c : List Tm} {n cp cp' : Int} {xs zs rest : Rows} {t : Tm} (h : Row7 c n cp xs) (hz : zs = xs.take n.toNat ++ [tU t] ++ rest) (hc : cp' = cnt zs) : Row7 (c ++ [t]) (n + 1) cp' zs := by
 have hl : (xs.take n.toNat).length = n.toNat := by
  have h1 := h.ec
  have h2 := h.le
  have h3 := h.en
  unfold cnt at *
  rw [List.length_take]
  omega
 have hn := h.en
 have h0 := cnt0 c
 refine ⟨by rw [hn]; unfold cnt; rw [List.length_append]; rfl, ?_, hc, ?_⟩
 ·rw [hz, show (n + 1).toNat = n.toNat + 1 by omega, List.map_append, ← h.tk, List.append_assoc, List.take_append, hl, List.take_of_length_le (by omega), show n.toNat + 1 - n.toNat = 1 by omega]
  rfl
 ·rw [hc, hz]
  unfold cnt at *
  rw [List.length_append, List.length_append, hl]
  simp only [List.length_cons, List.length_nil]
  omega
def mkH (l ds : Rows) (dn n cp : Int) (bad : Bool) (xs : Rows) : Heap := [some (.cells [.sl 2 n cp 7, .s 1 l, .sl 1 dn dn 1, ub bad]), some (.row 1 ds), some (.row 7 xs)]
def mkE (l ds : Rows) (dn n cp : Int) (bad : Bool) (xs : Rows) : Heap := [some (.cells [.sl 3 n cp 7, .s 1 l, .sl 1 dn dn 1, ub bad]), some (.row 1 ds), none, some (.row 7 xs)]
abbrev MS := List Tm × Int × Bool
def mkR (B : Int) (G : List U → List Tm → List Bool → List Int → Bool → MS → Prop) : HR := fun us h k => ∃ c l d ls ds dn n cp bad xs r, (ls = uB l ∧ ds = uN d ∧ dn = cnt d ∧ n ≤ B ∧ Row7 c n cp xs) ∧ G us c l d bad r ∧ h = mkH ls ds dn n cp bad xs ∧
 ∀ i n' cp' b' ys, i = r.2.1 → b' = r.2.2 → Row7 r.1 n' cp' ys → k (ui i) (mkE ls ds dn n' cp' b' ys)
theorem mk_call {E : Ent} {f : FuncId} {B : Int} {G : List U → List Tm → List Bool → List Int → Bool → MS → Prop} (hE : Tells E f (mkR B G)) {c : List Tm} {l : List Bool} {d : List Int} {ls ds xs : Rows} {dn n cp : Int} {bad : Bool} {us : List U} {h : Heap} {k : U → Heap → Prop} (id : Nat) (r : MS) (hr : Row7 c n cp xs)
  (hG : G (us.map (renU (ix [0, 1, id]))) c l d bad r) (hls : ls = uB l) (hds : ds = uN d) (hdn : dn = cnt d) (hk : ∀ i n' cp' b' ys, i = r.2.1 → b' = r.2.2 → Row7 r.1 n' cp' ys → k (ui i) (backH [0, 1, id] h (mkE ls ds dn n' cp' b' ys)))
  (hn : n ≤ B := by omega) (hh : [0, 1, id].map (fun j => renO (ix [0, 1, id]) (heapAt h j)) = mkH ls ds dn n cp bad xs := by rfl) (hc : seeB [0, 1, id] us h = true := by rfl) : E f us h k :=
 hE _ _ _ (see [0, 1, id] ⟨c, l, d, ls, ds, dn, n, cp, bad, xs, r, ⟨hls, hds, hdn, hn, hr⟩, hG, hh, hk⟩ hc)
theorem cnt_app {α : Type} (c : List α) (t : α) : cnt (c ++ [t]) = cnt c + 1 := by unfold cnt; rw [List.length_append]; rfl
theorem mk_end {h : Heap} {k : U → Heap → Prop} {l ds xs : Rows} {dn n cp r : Int} {bad : Bool} (id : Nat) (hk : k (ui r) (mkE l ds dn n cp bad xs)) (h0 : heapAt h 0 = some (.cells [.sl id n cp 7, .s 1 l, .sl 1 dn dn 1, ub bad]) := by rfl) (h1 : heapAt h 1 = some (.row 1 ds) := by rfl) (h2 : heapAt h id = some (.row 7 xs) := by rfl) (hid : (decide (2 ≤ id) && decide (id < h.length)) = true := by rfl) :
  weak 3 [ui r] h fun a h => match a with
   | [u] => k u h
   | _ => False := by
 simp only [Bool.and_eq_true, decide_eq_true_eq] at hid
 refine ⟨⟨[id], [ui r], mkE l ds dn n cp bad xs, ⟨?_, ⟨rfl, trivial⟩, ⟨_, h0, ⟨_, rfl, rfl⟩, rfl, ⟨_, rfl, rfl⟩, rfl, trivial⟩, h1, trivial, h2, trivial⟩, hk⟩⟩
 unfold keepsA
 have : alive (List.range 3 ++ [id]) (mkE l ds dn n cp bad xs) = [0, 1, id] := rfl
 rw [this]
 simp
 omega
theorem one_app {x : List U} {n cp : Int} {xs : Rows} (h : n ≤ 1000000) (hc : cp = cnt xs) : 1 ≤ cnt [x] ∧ cnt [x] ≤ 100000 ∧ n ≤ 1000000 ∧ cp = cnt xs := ⟨by unfold cnt; simp, by unfold cnt; simp, h, hc⟩
theorem in_len {xs zs : Rows} {n cp : Int} {y : List U} (hz : zs = xs.take n.toNat ++ [y] ++ xs.drop (n.toNat + [y].length)) (h0 : 0 ≤ n) (h : n + 1 ≤ cp) (hc : cp = cnt xs) : cp = cnt zs := by
 rw [hz]
 unfold cnt at *
 simp only [List.length_append, List.length_take, List.length_drop, List.length_cons, List.length_nil]
 omega
theorem gr_len {xs zs : Rows} {n cp c : Int} {y z : List U} (hz : zs = xs.take n.toNat ++ [y] ++ List.replicate (c.toNat - (n.toNat + [y].length)) z) (h0 : 0 ≤ n) (h : n ≤ cp) (h1 : n + 1 ≤ c) (hc : cp = cnt xs) : c = cnt zs := by
 rw [hz]
 unfold cnt at *
 simp only [List.length_append, List.length_take, List.length_replicate, List.length_cons, List.length_nil]
 omega
def putG (us : List U) (c : List Tm) (_ : List Bool) (_ : List Int) (bad : Bool) (r : MS) : Prop := ∃ t, us = [.ptr 0 0, .agg (tU t)] ∧ r = (c ++ [t], cnt c, bad)
theorem put_in : SoundH Tryz.prog 75 (mkR 100000 putG) := soundH [] [] orc_nil entH_nil Tryz.func75 (by kernel_rfl) (by kernel_rfl) fun us h k hR => by
 obtain ⟨c, l, d, ls, ds, dn, n, cp, bad, xs, r, ⟨hls, hds, hdn, hc, hr⟩, ⟨t, rfl, rfl⟩, rfl, hk⟩ := hR
 refine ⟨0, fun C E hC hE => ?_⟩
 have happ := fun cp' zs rest => hr.app (cp' := cp') (zs := zs) (rest := rest) (t := t)
 have hn := hr.en
 have hle := hr.le
 have hcp := hr.ec
 have hc0 := cnt0 c
 have hfin := fun i n' cp' ys (e : i = cnt c) (h : Row7 (c ++ [t]) n' cp' ys) => hk i n' cp' bad ys e rfl h
 clear hk hr
 obtain ⟨tk, ta, tb, tn, ts, tl, td⟩ := t
 clear hls hds
 cbv
 (repeat ((first | refine ln fun _ _ _ => ?_ | refine tt ?_ | refine ff ?_ | refine wr fun _ _ => ?_ | with_reducible refine bq ?_ | refine cl ?_ | refine sd ?_ | intro _ _); cbv))
 refine ⟨?_, ?_⟩ <;> (
  refine sd ?_ (one_app (by omega) hcp)
  intro n1 hn1
  have e1 : n1 = n + 1 := hn1
  refine ⟨fun zs h1 hz => ?_, fun c1 zs h1 h2 hz => ?_⟩
  ·have hr := happ cp zs _ hz (in_len hz (by omega) (by omega) hcp)
   rw [← e1] at hr
   clear hz
   cbv
   (repeat (((refine wr fun _ _ => ?_)); cbv))
   rename_i q hq
   exact mk_end 2 (hfin q _ _ _ (by omega) hr)
  ·have hr := happ c1 zs _ hz (gr_len hz (by omega) hle (by omega) hcp)
   rw [← e1] at hr
   clear hz
   cbv
   (repeat (((refine wr fun _ _ => ?_)); cbv))
   rename_i q hq
   exact mk_end 4 (hfin q _ _ _ (by omega) hr))
def twoG (us : List U) (c : List Tm) (_ : List Bool) (_ : List Int) (bad : Bool) (r : MS) : Prop := ∃ kd a b, us = [.ptr 0 0, ui kd, ui a, ui b] ∧ r = (c ++ [mkT kd a b 0], cnt c, bad)
theorem two_in : SoundH Tryz.prog 106 (mkR 100000 twoG) := soundH [] [(75, mkR 100000 putG)] orc_nil (entH_cons put_in entH_nil) Tryz.func106 (by kernel_rfl) (by kernel_rfl) fun us h k hR => by
 obtain ⟨c, l, d, ls, ds, dn, n, cp, bad, xs, r, ⟨hls, hds, hdn, hc, hr⟩, ⟨kd, a, b, rfl, rfl⟩, rfl, hk⟩ := hR
 refine ⟨0, fun C E hC hE => ?_⟩
 have hput := hE 75 (mkR 100000 putG) (by simp)
 clear hC hE
 cbv
 (repeat ((first | refine ln fun _ _ _ => ?_ | refine tt ?_ | refine ff ?_ | refine wr fun _ _ => ?_ | with_reducible refine bq ?_ | refine cl ?_ | refine sd ?_ | intro _ _); cbv))
 refine mk_call hput 2 (c ++ [mkT kd a b 0], cnt c, bad) hr ⟨mkT kd a b 0, rfl, rfl⟩ hls hds hdn fun i n' cp' b' ys hi hb hr' => ?_
 cbv
 (repeat ((first | refine ln fun _ _ _ => ?_ | refine tt ?_ | refine ff ?_ | refine wr fun _ _ => ?_ | with_reducible refine bq ?_ | refine cl ?_ | refine sd ?_ | intro _ _); cbv))
 exact mk_end 3 (hk i _ _ _ _ hi hb hr')
def negG (us : List U) (c : List Tm) (_ : List Bool) (_ : List Int) (bad : Bool) (r : MS) : Prop := ∃ a, us = [.ptr 0 0, ui a] ∧ r = (c ++ [mkT 7 a 0 0], cnt c, bad)
theorem neg_in : SoundH Tryz.prog 70 (mkR 100000 negG) := soundH [] [(75, mkR 100000 putG)] orc_nil (entH_cons put_in entH_nil) Tryz.func70 (by kernel_rfl) (by kernel_rfl) fun us h k hR => by
 obtain ⟨c, l, d, ls, ds, dn, n, cp, bad, xs, r, ⟨hls, hds, hdn, hc, hr⟩, ⟨a, rfl, rfl⟩, rfl, hk⟩ := hR
 refine ⟨0, fun C E hC hE => ?_⟩
 have hput := hE 75 (mkR 100000 putG) (by simp)
 clear hC hE
 cbv
 (repeat ((first | refine ln fun _ _ _ => ?_ | refine tt ?_ | refine ff ?_ | refine wr fun _ _ => ?_ | with_reducible refine bq ?_ | refine cl ?_ | refine sd ?_ | intro _ _); cbv))
 refine mk_call hput 2 (c ++ [mkT 7 a 0 0], cnt c, bad) hr ⟨mkT 7 a 0 0, rfl, rfl⟩ hls hds hdn fun i n' cp' b' ys hi hb hr' => ?_
 cbv
 (repeat ((first | refine ln fun _ _ _ => ?_ | refine tt ?_ | refine ff ?_ | refine wr fun _ _ => ?_ | with_reducible refine bq ?_ | refine cl ?_ | refine sd ?_ | intro _ _); cbv))
 exact mk_end 3 (hk i _ _ _ _ hi hb hr')
def litG (us : List U) (c : List Tm) (_ : List Bool) (_ : List Int) (bad : Bool) (r : MS) : Prop := ∃ v, -9223372036854775808 ≤ v ∧ v ≤ 9223372036854775807 ∧ us = [.ptr 0 0, ui v] ∧ r = (c ++ [litT v], cnt c, bad)
theorem lit_in : SoundH Tryz.prog 38 (mkR 100000 litG) := soundH [(76, rWholeR)] [(75, mkR 100000 putG)] (orc_cons rWhole_ok orc_nil) (entH_cons put_in entH_nil) Tryz.func38 (by kernel_rfl) (by kernel_rfl) fun us h k hR => by
 obtain ⟨c, l, d, ls, ds, dn, n, cp, bad, xs, r, ⟨hls, hds, hdn, hc, hr⟩, ⟨v, v0, v1, rfl, rfl⟩, rfl, hk⟩ := hR
 refine ⟨0, fun C E hC hE => ?_⟩
 have hput := hE 75 (mkR 100000 putG) (by simp)
 obtain ⟨s1, l1, d1, k1, i1⟩ := tR (hC 76 rWholeR (by simp) _ _ ⟨v, v0, v1, rfl, rfl⟩)
 have e1 : litT v = ⟨1, 0, 0, 0, (s1, l1, d1)⟩ := by unfold litT; rw [i1]
 rw [e1] at hk
 clear hC hE i1 e1
 cbv
 (repeat ((refine cl ?_); cbv))
 refine mk_call hput 2 (c ++ [⟨1, 0, 0, 0, (s1, l1, d1)⟩], cnt c, bad) hr ⟨⟨1, 0, 0, 0, (s1, l1, d1)⟩, rfl, rfl⟩ hls hds hdn fun i n' cp' b' ys hi hb hr' => ?_
 cbv
 (repeat ((first | refine ln fun _ _ _ => ?_ | refine tt ?_ | refine ff ?_ | refine wr fun _ _ => ?_ | with_reducible refine bq ?_ | refine cl ?_ | refine sd ?_ | intro _ _); cbv))
 exact mk_end 3 (hk i _ _ _ _ hi hb hr')
def powG (us : List U) (c : List Tm) (_ : List Bool) (_ : List Int) (bad : Bool) (r : MS) : Prop := ∃ a m, us = [.ptr 0 0, ui a, ui m] ∧ r = (c ++ [mkT 8 a 0 m], cnt c, bad || decide (m < -128))
theorem pow_in : SoundH Tryz.prog 107 (mkR 100000 powG) := soundH [] [(75, mkR 100000 putG)] orc_nil (entH_cons put_in entH_nil) Tryz.func107 (by kernel_rfl) (by kernel_rfl) fun us h k hR => by
 obtain ⟨c, l, d, ls, ds, dn, n, cp, bad, xs, r, ⟨hls, hds, hdn, hc, hr⟩, ⟨a, m, rfl, rfl⟩, rfl, hk⟩ := hR
 refine ⟨0, fun C E hC hE => ?_⟩
 have hput := hE 75 (mkR 100000 putG) (by simp)
 clear hC hE
 have fin : ∀ b2, (bad || decide (m < -128)) = b2 → ∀ i n' cp' b' ys, i = cnt c → b' = b2 → Row7 (c ++ [mkT 8 a 0 m]) n' cp' ys → k (ui i) (mkE ls ds dn n' cp' b' ys) := fun b2 e i n' cp' b' ys h1 h2 h3 => hk i n' cp' b' ys h1 (by rw [h2, ← e]) h3
 clear hk
 cases bad
 ·rcases Decidable.em (m < -128) with h | h
  ·have fin := fin true (by rw [decide_eq_true h]; rfl)
   cbv
   (repeat ((refine tt ?_); cbv))
   refine mk_call hput 2 (c ++ [mkT 8 a 0 m], cnt c, true) hr ⟨mkT 8 a 0 m, rfl, rfl⟩ hls hds hdn fun i n' cp' b' ys hi hb hr' => ?_
   cbv
   (repeat ((first | refine ln fun _ _ _ => ?_ | refine tt ?_ | refine ff ?_ | refine wr fun _ _ => ?_ | with_reducible refine bq ?_ | refine cl ?_ | refine sd ?_ | intro _ _); cbv))
   exact mk_end 3 (fin i _ _ _ _ hi hb hr')
  ·have fin := fin false (by rw [decide_eq_false h]; rfl)
   cbv
   (repeat ((refine ff ?_); cbv))
   refine mk_call hput 2 (c ++ [mkT 8 a 0 m], cnt c, false) hr ⟨mkT 8 a 0 m, rfl, rfl⟩ hls hds hdn fun i n' cp' b' ys hi hb hr' => ?_
   cbv
   (repeat ((first | refine ln fun _ _ _ => ?_ | refine tt ?_ | refine ff ?_ | refine wr fun _ _ => ?_ | with_reducible refine bq ?_ | refine cl ?_ | refine sd ?_ | intro _ _); cbv))
   exact mk_end 3 (fin i _ _ _ _ hi hb hr')
 ·have fin := fin true rfl
  cbv
  (repeat ((first | refine ln fun _ _ _ => ?_ | refine tt ?_ | refine ff ?_ | refine wr fun _ _ => ?_ | with_reducible refine bq ?_ | refine cl ?_ | refine sd ?_ | intro _ _); cbv))
  refine mk_call hput 2 (c ++ [mkT 8 a 0 m], cnt c, true) hr ⟨mkT 8 a 0 m, rfl, rfl⟩ hls hds hdn fun i n' cp' b' ys hi hb hr' => ?_
  cbv
  (repeat ((first | refine ln fun _ _ _ => ?_ | refine tt ?_ | refine ff ?_ | refine wr fun _ _ => ?_ | with_reducible refine bq ?_ | refine cl ?_ | refine sd ?_ | intro _ _); cbv))
  exact mk_end 3 (fin i _ _ _ _ hi hb hr')
def bAt (l : List Bool) (i : Int) : Bool := (l[i.toNat]?).getD false
def dAt (d : List Int) (i : Int) : Int := (d[i.toNat]?).getD 0
theorem bAt_of {l : List Bool} {i : Int} {b : Bool} (h : l[i.toNat]? = some b) : bAt l i = b := by unfold bAt; rw [h]; rfl
theorem dAt_of {d : List Int} {i x : Int} (h : d[i.toNat]? = some x) : dAt d i = x := by unfold dAt; rw [h]; rfl
theorem uN_nth {d : List Int} {k : Int} (h0 : 0 ≤ k) (h1 : k < cnt d) : ∃ x, d[k.toNat]? = some x ∧ (uN d)[k.toNat]? = some [ui x] := nth_map (c := d) (fun x => [ui x]) h0 h1
def inD (l : List Bool) (d : List Int) (x : Int) : Prop := 0 ≤ x ∧ x < cnt l ∧ x < cnt d
theorem inD.at {l : List Bool} {d : List Int} {ls ds : Rows} {x : Int} (h : inD l d x) (hls : ls = uB l) (hds : ds = uN d) : ∃ b y, bAt l x = b ∧ dAt d x = y ∧ ls[x.toNat]? = some [ub b] ∧ ds[x.toNat]? = some [ui y] := by
 obtain ⟨b, h1, h2⟩ := uB_nth (s := l) h.1 h.2.1
 obtain ⟨y, h3, h4⟩ := uN_nth (d := d) h.1 h.2.2
 exact ⟨b, y, bAt_of h1, dAt_of h3, by rw [hls]; exact h2, by rw [hds]; exact h4⟩
def sumS (l : List Bool) (d : List Int) (c : List Tm) (bad : Bool) (t : Tm) : MS :=
 if bAt l t.a = true then (if bAt l t.b = true then (c ++ [mkT t.k (dAt d t.a) (dAt d t.b) 0], cnt c, bad) else (c, dAt d t.a, bad))
 else if t.k = 4 then (c ++ [mkT 7 (dAt d t.b) 0 0], cnt c, bad) else (c, dAt d t.b, bad)
def productS (l : List Bool) (d : List Int) (c : List Tm) (bad : Bool) (t : Tm) : MS :=
 let p := c ++ [mkT 5 (dAt d t.a) t.b 0]
 let q := p ++ [mkT 5 t.a (dAt d t.b) 0]
 if bAt l t.b = true then (if bAt l t.a = true then (q ++ [mkT 3 (cnt c) (cnt p) 0], cnt q, bad) else (c ++ [mkT 5 t.a (dAt d t.b) 0], cnt c, bad))
 else if bAt l t.a = true then (p, cnt c, bad) else (c, 0, bad)
def quotientS (l : List Bool) (d : List Int) (c : List Tm) (bad : Bool) (t : Tm) : MS :=
 if bAt l t.b = true then
  (if bAt l t.a = true then
   let p := c ++ [mkT 5 (dAt d t.a) t.b 0]
   let q := p ++ [mkT 5 t.a (dAt d t.b) 0]
   let u := q ++ [mkT 4 (cnt c) (cnt p) 0]
   let v := u ++ [mkT 8 t.b 0 2]
   (v ++ [mkT 6 (cnt q) (cnt u) 0], cnt v, bad)
  else
   let q := c ++ [mkT 5 t.a (dAt d t.b) 0]
   let u := q ++ [mkT 7 (cnt c) 0 0]
   let v := u ++ [mkT 8 t.b 0 2]
   (v ++ [mkT 6 (cnt q) (cnt u) 0], cnt v, bad))
 else (c ++ [mkT 6 (dAt d t.a) t.b 0], cnt c, bad)
def raisedS (d : List Int) (c : List Tm) (bad : Bool) (t : Tm) : MS :=
 if t.n = 1 then (c, dAt d t.a, bad) else
  let p := c ++ [litT t.n]
  let q := p ++ [mkT 8 t.a 0 (t.n - 1)]
  let u := q ++ [mkT 5 (cnt c) (cnt p) 0]
  (u ++ [mkT 5 (cnt q) (dAt d t.a) 0], cnt u, bad || decide (t.n - 1 < -128))
def termS (l : List Bool) (d : List Int) (c : List Tm) (bad : Bool) (t : Tm) : MS :=
 if t.k = 2 then (c ++ [litT 1], cnt c, bad)
 else if t.k = 7 then (c ++ [mkT 7 (dAt d t.a) 0 0], cnt c, bad)
 else if t.k = 5 then productS l d c bad t
 else if t.k = 6 then quotientS l d c bad t
 else if t.k = 8 then raisedS d c bad t
 else sumS l d c bad t
def sumG (us : List U) (c : List Tm) (l : List Bool) (d : List Int) (bad : Bool) (r : MS) : Prop := ∃ t, us = [.ptr 0 0, .agg (tU t)] ∧ inD l d t.a ∧ inD l d t.b ∧ r = sumS l d c bad t
theorem sum_in : SoundH Tryz.prog 74 (mkR 99000 sumG) := soundH [] [(106, mkR 100000 twoG), (70, mkR 100000 negG)] orc_nil (entH_cons two_in (entH_cons neg_in entH_nil)) Tryz.func74 (by kernel_rfl) (by kernel_rfl) fun us h k hR => by
 obtain ⟨c, l, d, ls, ds, dn, n, cp, bad, xs, r, ⟨hls, hds, hdn, hc, hr⟩, ⟨t, rfl, ha, hb, rfl⟩, rfl, hk⟩ := hR
 refine ⟨0, fun C E hC hE => ?_⟩
 have htwo := hE 106 (mkR 100000 twoG) (by simp)
 have hneg := hE 70 (mkR 100000 negG) (by simp)
 obtain ⟨bA, xA, e1, e2, e3, e4⟩ := ha.at hls hds
 obtain ⟨bB, xB, f1, f2, f3, f4⟩ := hb.at hls hds
 obtain ⟨a0, a1, a2⟩ := ha
 obtain ⟨b0, b1, b2⟩ := hb
 unfold sumS at hk
 rw [e1, e2, f1, f2] at hk
 obtain ⟨kd, ta, tb, tn, ts, tl, td⟩ := t
 dsimp only at *
 clear hC hE e1 e2 f1 f2
 cases bA
 ·rcases Decidable.em (kd = 4) with h | h
  ·have hk' : ∀ i n' cp' b' ys, i = cnt c → b' = bad → Row7 (c ++ [mkT 7 xB 0 0]) n' cp' ys → k (ui i) (mkE ls ds dn n' cp' b' ys) := by
    rw [if_pos h] at hk
    exact hk
   cases bB <;> (
    cbv
    (repeat ((first | refine tt ?_ | refine sd ?_ | refine el ?_); cbv))
    refine mk_call hneg 2 (c ++ [mkT 7 xB 0 0], cnt c, bad) hr ⟨xB, rfl, rfl⟩ hls hds hdn fun i n' cp' b' ys hi hb hr' => ?_
    cbv
    (repeat ((first | refine ln fun _ _ _ => ?_ | refine tt ?_ | refine ff ?_ | refine wr fun _ _ => ?_ | with_reducible refine bq ?_ | refine cl ?_ | refine sd ?_ | refine el ?_ | intro _ _); cbv))
    exact mk_end 4 (hk' i _ _ _ _ hi hb hr'))
  ·have hk' : ∀ i n' cp' b' ys, i = xB → b' = bad → Row7 c n' cp' ys → k (ui i) (mkE ls ds dn n' cp' b' ys) := by
    rw [if_neg h] at hk
    exact hk
   cases bB <;> (
    cbv
    (repeat ((first | refine ff ?_ | refine sd ?_ | refine el ?_); cbv))
    exact mk_end 2 (hk' xB _ _ _ _ rfl rfl hr))
 ·cases bB
  ·cbv
   (repeat ((first | refine sd ?_ | refine el ?_); cbv))
   exact mk_end 2 (hk xA _ _ _ _ rfl rfl hr)
  ·cbv
   (repeat ((first | refine sd ?_ | refine el ?_); cbv))
   refine mk_call htwo 2 (c ++ [mkT kd xA xB 0], cnt c, bad) hr ⟨kd, xA, xB, rfl, rfl⟩ hls hds hdn fun i n' cp' b' ys hi hb hr' => ?_
   cbv
   (repeat ((first | refine ln fun _ _ _ => ?_ | refine tt ?_ | refine ff ?_ | refine wr fun _ _ => ?_ | with_reducible refine bq ?_ | refine cl ?_ | refine sd ?_ | refine el ?_ | intro _ _); cbv))
   exact mk_end 4 (hk i _ _ _ _ hi hb hr')
def productG (us : List U) (c : List Tm) (l : List Bool) (d : List Int) (bad : Bool) (r : MS) : Prop := ∃ t, us = [.ptr 0 0, .agg (tU t)] ∧ inD l d t.a ∧ inD l d t.b ∧ r = productS l d c bad t
theorem product_in : SoundH Tryz.prog 71 (mkR 99000 productG) := soundH [] [(106, mkR 100000 twoG)] orc_nil (entH_cons two_in entH_nil) Tryz.func71 (by kernel_rfl) (by kernel_rfl) fun us h k hR => by
 obtain ⟨c, l, d, ls, ds, dn, n, cp, bad, xs, r, ⟨hls, hds, hdn, hc, hr⟩, ⟨t, rfl, ha, hb, rfl⟩, rfl, hk⟩ := hR
 refine ⟨0, fun C E hC hE => ?_⟩
 have htwo := hE 106 (mkR 100000 twoG) (by simp)
 obtain ⟨bA, xA, e1, e2, e3, e4⟩ := ha.at hls hds
 obtain ⟨bB, xB, f1, f2, f3, f4⟩ := hb.at hls hds
 obtain ⟨a0, a1, a2⟩ := ha
 obtain ⟨b0, b1, b2⟩ := hb
 unfold productS at hk
 rw [e1, e2, f1, f2] at hk
 obtain ⟨kd, ta, tb, tn, ts, tl, td⟩ := t
 dsimp only at *
 clear hC hE e1 e2 f1 f2
 have hn0 := hr.en
 cases bB
 ·cases bA
  ·cbv
   (repeat ((first | with_reducible refine bq ?_ | refine el ?_); cbv))
   exact mk_end 2 (hk 0 _ _ _ _ rfl rfl hr)
  ·cbv
   (repeat ((first | refine sd ?_ | refine el ?_); cbv))
   refine mk_call htwo 2 (c ++ [mkT 5 xA tb 0], cnt c, bad) hr ⟨5, xA, tb, rfl, rfl⟩ hls hds hdn fun i n' cp' b' ys hi hb hr' => ?_
   cbv
   (repeat ((first | with_reducible refine bq ?_ | refine el ?_); cbv))
   exact mk_end 4 (hk i _ _ _ _ hi hb hr')
 ·cases bA
  ·cbv
   (repeat ((first | refine sd ?_ | refine el ?_); cbv))
   refine mk_call htwo 2 (c ++ [mkT 5 ta xB 0], cnt c, bad) hr ⟨5, ta, xB, rfl, rfl⟩ hls hds hdn fun i n' cp' b' ys hi hb hr' => ?_
   cbv
   (repeat ((first | with_reducible refine bq ?_ | refine el ?_); cbv))
   exact mk_end 4 (hk i _ _ _ _ hi hb hr')
  ·cbv
   (repeat ((first | refine sd ?_ | refine el ?_); cbv))
   refine mk_call htwo 2 (c ++ [mkT 5 xA tb 0], cnt c, bad) hr ⟨5, xA, tb, rfl, rfl⟩ hls hds hdn fun i1 n1 cp1 b1 ys1 g1 g2 g3 => ?_
   dsimp only at g1 g2 g3
   have m1 := g3.en
   rw [cnt_app] at m1
   cbv
   (repeat ((first | refine sd ?_ | refine el ?_); cbv))
   refine mk_call htwo 4 (c ++ [mkT 5 xA tb 0] ++ [mkT 5 ta xB 0], cnt (c ++ [mkT 5 xA tb 0]), b1) g3 ⟨5, ta, xB, rfl, rfl⟩ hls hds hdn fun i2 n2 cp2 b2 ys2 g4 g5 g6 => ?_
   dsimp only at g4 g5 g6
   have m2 := g6.en
   rw [cnt_app, cnt_app] at m2
   cbv
   (repeat ((first | with_reducible refine bq ?_ | refine el ?_); cbv))
   refine mk_call htwo 5 (c ++ [mkT 5 xA tb 0] ++ [mkT 5 ta xB 0] ++ [mkT 3 i1 i2 0], cnt (c ++ [mkT 5 xA tb 0] ++ [mkT 5 ta xB 0]), b2) g6 ⟨3, _, _, rfl, rfl⟩ hls hds hdn fun i3 n3 cp3 b3 ys3 g7 g8 g9 => ?_
   dsimp only at g7 g8 g9
   rw [g1, g4] at g9
   cbv
   (repeat ((first | refine ln fun _ _ _ => ?_ | refine tt ?_ | refine ff ?_ | refine wr fun _ _ => ?_ | with_reducible refine bq ?_ | refine cl ?_ | refine sd ?_ | refine el ?_ | intro _ _); cbv))
   exact mk_end 6 (hk i3 _ _ _ _ g7 (g8.trans (g5.trans g2)) g9)
def quotientG (us : List U) (c : List Tm) (l : List Bool) (d : List Int) (bad : Bool) (r : MS) : Prop := ∃ t, us = [.ptr 0 0, .agg (tU t)] ∧ inD l d t.a ∧ inD l d t.b ∧ r = quotientS l d c bad t
theorem quotient_in : SoundH Tryz.prog 72 (mkR 99000 quotientG) := soundH [] [(106, mkR 100000 twoG), (70, mkR 100000 negG), (107, mkR 100000 powG)] orc_nil (entH_cons two_in (entH_cons neg_in (entH_cons pow_in entH_nil))) Tryz.func72 (by kernel_rfl) (by kernel_rfl) fun us h k hR => by
 obtain ⟨c, l, d, ls, ds, dn, n, cp, bad, xs, r, ⟨hls, hds, hdn, hc, hr⟩, ⟨t, rfl, ha, hb, rfl⟩, rfl, hk⟩ := hR
 refine ⟨0, fun C E hC hE => ?_⟩
 have htwo := hE 106 (mkR 100000 twoG) (by simp)
 have hneg := hE 70 (mkR 100000 negG) (by simp)
 have hpow := hE 107 (mkR 100000 powG) (by simp)
 obtain ⟨bA, xA, e1, e2, e3, e4⟩ := ha.at hls hds
 obtain ⟨bB, xB, f1, f2, f3, f4⟩ := hb.at hls hds
 obtain ⟨a0, a1, a2⟩ := ha
 obtain ⟨b0, b1, b2⟩ := hb
 unfold quotientS at hk
 rw [e1, e2, f1, f2] at hk
 obtain ⟨kd, ta, tb, tn, ts, tl, td⟩ := t
 dsimp only at *
 clear hC hE e1 e2 f1 f2
 have hn0 := hr.en
 cases bB
 ·cbv
  (repeat ((first | with_reducible refine bq ?_ | refine sd ?_ | refine el ?_); cbv))
  refine mk_call htwo 2 (c ++ [mkT 6 xA tb 0], cnt c, bad) hr ⟨6, xA, tb, rfl, rfl⟩ hls hds hdn fun i n' cp' b' ys hi hb hr' => ?_
  cbv
  (repeat ((first | refine ln fun _ _ _ => ?_ | refine tt ?_ | refine ff ?_ | refine wr fun _ _ => ?_ | with_reducible refine bq ?_ | refine cl ?_ | refine sd ?_ | refine el ?_ | intro _ _); cbv))
  exact mk_end 4 (hk i _ _ _ _ hi hb hr')
 cases bA
 ·have hk : ∀ i n' cp' b' ys, i = cnt (c ++ [mkT 5 ta xB 0] ++ [mkT 7 (cnt c) 0 0] ++ [mkT 8 tb 0 2]) → b' = bad → Row7 (c ++ [mkT 5 ta xB 0] ++ [mkT 7 (cnt c) 0 0] ++ [mkT 8 tb 0 2] ++ [mkT 6 (cnt (c ++ [mkT 5 ta xB 0])) (cnt (c ++ [mkT 5 ta xB 0] ++ [mkT 7 (cnt c) 0 0])) 0]) n' cp' ys → k (ui i) (mkE ls ds dn n' cp' b' ys) := hk
  cbv
  (repeat ((first | with_reducible refine bq ?_ | refine sd ?_ | refine el ?_); cbv))
  refine mk_call htwo 2 (c ++ [mkT 5 ta xB 0], cnt (c), bad) hr ⟨5, ta, xB, rfl, rfl⟩ hls hds hdn fun i1 n1 cp1 b1 ys1 g1 h1 r1 => ?_
  dsimp only at g1 h1 r1
  have m1 := r1.en
  simp only [cnt_app] at m1
  cbv
  (repeat ((refine el ?_); cbv))
  refine mk_call hneg 4 (c ++ [mkT 5 ta xB 0] ++ [mkT 7 i1 0 0], cnt (c ++ [mkT 5 ta xB 0]), b1) r1 ⟨i1, rfl, rfl⟩ hls hds hdn fun i2 n2 cp2 b2 ys2 g2 h2 r2 => ?_
  dsimp only at g2 h2 r2
  have m2 := r2.en
  simp only [cnt_app] at m2
  cbv
  (repeat ((first | refine ln fun _ _ _ => ?_ | refine tt ?_ | refine ff ?_ | refine wr fun _ _ => ?_ | with_reducible refine bq ?_ | refine cl ?_ | refine sd ?_ | refine el ?_ | intro _ _); cbv))
  refine mk_call hpow 5 (c ++ [mkT 5 ta xB 0] ++ [mkT 7 i1 0 0] ++ [mkT 8 tb 0 2], cnt (c ++ [mkT 5 ta xB 0] ++ [mkT 7 i1 0 0]), b2 || decide ((2 : Int) < -128)) r2 ⟨tb, 2, rfl, rfl⟩ hls hds hdn fun i3 n3 cp3 b3 ys3 g3 h3 r3 => ?_
  dsimp only at g3 h3 r3
  have m3 := r3.en
  simp only [cnt_app] at m3
  cbv
  (repeat ((first | refine ln fun _ _ _ => ?_ | refine tt ?_ | refine ff ?_ | refine wr fun _ _ => ?_ | with_reducible refine bq ?_ | refine cl ?_ | refine sd ?_ | refine el ?_ | intro _ _); cbv))
  refine mk_call htwo 6 (c ++ [mkT 5 ta xB 0] ++ [mkT 7 i1 0 0] ++ [mkT 8 tb 0 2] ++ [mkT 6 i2 i3 0], cnt (c ++ [mkT 5 ta xB 0] ++ [mkT 7 i1 0 0] ++ [mkT 8 tb 0 2]), b3) r3 ⟨6, i2, i3, rfl, rfl⟩ hls hds hdn fun i4 n4 cp4 b4 ys4 g4 h4 r4 => ?_
  dsimp only at g4 h4 r4
  have m4 := r4.en
  simp only [cnt_app] at m4
  cbv
  (repeat ((first | refine ln fun _ _ _ => ?_ | refine tt ?_ | refine ff ?_ | refine wr fun _ _ => ?_ | with_reducible refine bq ?_ | refine cl ?_ | refine sd ?_ | refine el ?_ | intro _ _); cbv))
  have hbad : b4 = bad := by rw [h4, h3, h2, h1]; simp
  rw [g3, g2, g1] at r4
  rw [g1] at g4
  exact mk_end 7 (hk i4 _ _ _ _ g4 hbad r4)
 ·have hk : ∀ i n' cp' b' ys, i = cnt (c ++ [mkT 5 xA tb 0] ++ [mkT 5 ta xB 0] ++ [mkT 4 (cnt c) (cnt (c ++ [mkT 5 xA tb 0])) 0] ++ [mkT 8 tb 0 2]) → b' = bad → Row7 (c ++ [mkT 5 xA tb 0] ++ [mkT 5 ta xB 0] ++ [mkT 4 (cnt c) (cnt (c ++ [mkT 5 xA tb 0])) 0] ++ [mkT 8 tb 0 2] ++ [mkT 6 (cnt (c ++ [mkT 5 xA tb 0] ++ [mkT 5 ta xB 0])) (cnt (c ++ [mkT 5 xA tb 0] ++ [mkT 5 ta xB 0] ++ [mkT 4 (cnt c) (cnt (c ++ [mkT 5 xA tb 0])) 0])) 0]) n' cp' ys → k (ui i) (mkE ls ds dn n' cp' b' ys) := hk
  cbv
  (repeat ((first | with_reducible refine bq ?_ | refine sd ?_ | refine el ?_); cbv))
  refine mk_call htwo 2 (c ++ [mkT 5 xA tb 0], cnt (c), bad) hr ⟨5, xA, tb, rfl, rfl⟩ hls hds hdn fun i1 n1 cp1 b1 ys1 g1 h1 r1 => ?_
  dsimp only at g1 h1 r1
  have m1 := r1.en
  simp only [cnt_app] at m1
  cbv
  (repeat ((first | refine sd ?_ | refine el ?_); cbv))
  refine mk_call htwo 4 (c ++ [mkT 5 xA tb 0] ++ [mkT 5 ta xB 0], cnt (c ++ [mkT 5 xA tb 0]), b1) r1 ⟨5, ta, xB, rfl, rfl⟩ hls hds hdn fun i2 n2 cp2 b2 ys2 g2 h2 r2 => ?_
  dsimp only at g2 h2 r2
  have m2 := r2.en
  simp only [cnt_app] at m2
  cbv
  (repeat ((refine el ?_); cbv))
  refine mk_call htwo 5 (c ++ [mkT 5 xA tb 0] ++ [mkT 5 ta xB 0] ++ [mkT 4 i1 i2 0], cnt (c ++ [mkT 5 xA tb 0] ++ [mkT 5 ta xB 0]), b2) r2 ⟨4, i1, i2, rfl, rfl⟩ hls hds hdn fun i3 n3 cp3 b3 ys3 g3 h3 r3 => ?_
  dsimp only at g3 h3 r3
  have m3 := r3.en
  simp only [cnt_app] at m3
  cbv
  (repeat ((first | refine ln fun _ _ _ => ?_ | refine tt ?_ | refine ff ?_ | refine wr fun _ _ => ?_ | with_reducible refine bq ?_ | refine cl ?_ | refine sd ?_ | refine el ?_ | intro _ _); cbv))
  refine mk_call hpow 6 (c ++ [mkT 5 xA tb 0] ++ [mkT 5 ta xB 0] ++ [mkT 4 i1 i2 0] ++ [mkT 8 tb 0 2], cnt (c ++ [mkT 5 xA tb 0] ++ [mkT 5 ta xB 0] ++ [mkT 4 i1 i2 0]), b3 || decide ((2 : Int) < -128)) r3 ⟨tb, 2, rfl, rfl⟩ hls hds hdn fun i4 n4 cp4 b4 ys4 g4 h4 r4 => ?_
  dsimp only at g4 h4 r4
  have m4 := r4.en
  simp only [cnt_app] at m4
  cbv
  (repeat ((first | refine ln fun _ _ _ => ?_ | refine tt ?_ | refine ff ?_ | refine wr fun _ _ => ?_ | with_reducible refine bq ?_ | refine cl ?_ | refine sd ?_ | refine el ?_ | intro _ _); cbv))
  refine mk_call htwo 7 (c ++ [mkT 5 xA tb 0] ++ [mkT 5 ta xB 0] ++ [mkT 4 i1 i2 0] ++ [mkT 8 tb 0 2] ++ [mkT 6 i3 i4 0], cnt (c ++ [mkT 5 xA tb 0] ++ [mkT 5 ta xB 0] ++ [mkT 4 i1 i2 0] ++ [mkT 8 tb 0 2]), b4) r4 ⟨6, i3, i4, rfl, rfl⟩ hls hds hdn fun i5 n5 cp5 b5 ys5 g5 h5 r5 => ?_
  dsimp only at g5 h5 r5
  have m5 := r5.en
  simp only [cnt_app] at m5
  cbv
  (repeat ((first | refine ln fun _ _ _ => ?_ | refine tt ?_ | refine ff ?_ | refine wr fun _ _ => ?_ | with_reducible refine bq ?_ | refine cl ?_ | refine sd ?_ | refine el ?_ | intro _ _); cbv))
  have hbad : b5 = bad := by rw [h5, h4, h3, h2, h1]; simp
  rw [g4, g3, g2, g1] at r5
  rw [g2, g1] at g5
  exact mk_end 8 (hk i5 _ _ _ _ g5 hbad r5)
def raisedG (us : List U) (c : List Tm) (l : List Bool) (d : List Int) (bad : Bool) (r : MS) : Prop := ∃ t, us = [.ptr 0 0, .agg (tU t)] ∧ inD l d t.a ∧ (-1000000 ≤ t.n ∧ t.n ≤ 1000000) ∧ r = raisedS d c bad t
theorem raised_in : SoundH Tryz.prog 73 (mkR 99000 raisedG) := soundH [] [(106, mkR 100000 twoG), (38, mkR 100000 litG), (107, mkR 100000 powG)] orc_nil (entH_cons two_in (entH_cons lit_in (entH_cons pow_in entH_nil))) Tryz.func73 (by kernel_rfl) (by kernel_rfl) fun us h k hR => by
 obtain ⟨c, l, d, ls, ds, dn, n, cp, bad, xs, r, ⟨hls, hds, hdn, hc, hr⟩, ⟨t, rfl, ha, hb, rfl⟩, rfl, hk⟩ := hR
 refine ⟨0, fun C E hC hE => ?_⟩
 have htwo := hE 106 (mkR 100000 twoG) (by simp)
 have hlit := hE 38 (mkR 100000 litG) (by simp)
 have hpow := hE 107 (mkR 100000 powG) (by simp)
 obtain ⟨bA, xA, e1, e2, e3, e4⟩ := ha.at hls hds
 obtain ⟨a0, a1, a2⟩ := ha
 unfold raisedS at hk
 rw [e2] at hk
 obtain ⟨kd, ta, tb, tn, ts, tl, td⟩ := t
 dsimp only at *
 clear hC hE e1 e2
 have hn0 := hr.en
 rcases Decidable.em (tn = 1) with h | h
 ·rw [if_pos h] at hk
  cbv
  (repeat ((first | refine tt ?_ | refine sd ?_ | refine el ?_); cbv))
  exact mk_end 2 (hk xA _ _ _ _ rfl rfl hr)
 ·rw [if_neg h] at hk
  have hk : ∀ i n' cp' b' ys, i = cnt (c ++ [litT tn] ++ [mkT 8 ta 0 (tn - 1)] ++ [mkT 5 (cnt c) (cnt (c ++ [litT tn])) 0]) → b' = (bad || decide (tn - 1 < -128)) → Row7 (c ++ [litT tn] ++ [mkT 8 ta 0 (tn - 1)] ++ [mkT 5 (cnt c) (cnt (c ++ [litT tn])) 0] ++ [mkT 5 (cnt (c ++ [litT tn] ++ [mkT 8 ta 0 (tn - 1)])) xA 0]) n' cp' ys → k (ui i) (mkE ls ds dn n' cp' b' ys) := hk
  cbv
  (repeat ((refine ff ?_); cbv))
  refine mk_call hlit 2 (c ++ [litT tn], cnt c, bad) hr ⟨tn, by omega, by omega, rfl, rfl⟩ hls hds hdn fun i1 n1 cp1 b1 ys1 g1 h1 r1 => ?_
  dsimp only at g1 h1 r1
  have m1 := r1.en
  simp only [cnt_app] at m1
  clear hr hlit
  cbv
  (repeat (((refine wr fun _ _ => ?_)); cbv))
  rename_i q hq
  repeat' (first
   | refine And.intro ?_ ?_
   | (
     refine mk_call hpow 4 (c ++ [litT tn] ++ [mkT 8 ta 0 q], cnt (c ++ [litT tn]), b1 || decide (q < -128)) r1 ⟨ta, q, rfl, rfl⟩ hls hds hdn fun i2 n2 cp2 b2 ys2 g2 h2 r2 => ?_
     dsimp only at g2 h2 r2
     have m2 := r2.en
     simp only [cnt_app] at m2
     clear r1 hpow
     cbv)
   | (
     refine mk_call htwo 5 (c ++ [litT tn] ++ [mkT 8 ta 0 q] ++ [mkT 5 i1 i2 0], cnt (c ++ [litT tn] ++ [mkT 8 ta 0 q]), b2) r2 ⟨5, i1, i2, rfl, rfl⟩ hls hds hdn fun i3 n3 cp3 b3 ys3 g3 h3 r3 => ?_
     dsimp only at g3 h3 r3
     have m3 := r3.en
     simp only [cnt_app] at m3
     clear r2
     cbv)
   | (
     refine mk_call htwo 6 (c ++ [litT tn] ++ [mkT 8 ta 0 q] ++ [mkT 5 i1 i2 0] ++ [mkT 5 i3 xA 0], cnt (c ++ [litT tn] ++ [mkT 8 ta 0 q] ++ [mkT 5 i1 i2 0]), b3) r3 ⟨5, i3, xA, rfl, rfl⟩ hls hds hdn fun i4 n4 cp4 b4 ys4 g4 h4 r4 => ?_
     dsimp only at g4 h4 r4
     clear r3
     cbv)
   | (refine sd ?_; cbv)
   | (refine el ?_; cbv))
  all_goals
   rw [g3, g2, g1, hq] at r4
   rw [g2, g1, hq] at g4
   have hb4 : b4 = (bad || decide (tn - 1 < -128)) := by rw [h4, h3, h2, h1, hq]
   exact mk_end 7 (hk i4 _ _ _ _ g4 hb4 r4)
def termG (us : List U) (c : List Tm) (l : List Bool) (d : List Int) (bad : Bool) (r : MS) : Prop := ∃ t, us = [.ptr 0 0, .agg (tU t)] ∧ (t.k = 2 ∨ (t.k = 7 ∧ inD l d t.a) ∨ (t.k = 8 ∧ inD l d t.a ∧ -1000000 ≤ t.n ∧ t.n ≤ 1000000) ∨ ((t.k = 3 ∨ t.k = 4 ∨ t.k = 5 ∨ t.k = 6) ∧ inD l d t.a ∧ inD l d t.b)) ∧ r = termS l d c bad t
theorem term_inH : SoundH Tryz.prog 37 (mkR 99000 termG) := soundH [] [(38, mkR 100000 litG), (70, mkR 100000 negG), (71, mkR 99000 productG), (72, mkR 99000 quotientG), (73, mkR 99000 raisedG), (74, mkR 99000 sumG)] orc_nil (entH_cons lit_in (entH_cons neg_in (entH_cons product_in (entH_cons quotient_in (entH_cons raised_in (entH_cons sum_in entH_nil)))))) Tryz.func37 (by kernel_rfl) (by kernel_rfl) fun us h k hR => by
 obtain ⟨c, l, d, ls, ds, dn, n, cp, bad, xs, r, ⟨hls, hds, hdn, hc, hr⟩, ⟨t, rfl, ht, rfl⟩, rfl, hk⟩ := hR
 refine ⟨0, fun C E hC hE => ?_⟩
 have hlit := hE 38 (mkR 100000 litG) (by simp)
 have hneg := hE 70 (mkR 100000 negG) (by simp)
 have hprod := hE 71 (mkR 99000 productG) (by simp)
 have hquot := hE 72 (mkR 99000 quotientG) (by simp)
 have hrais := hE 73 (mkR 99000 raisedG) (by simp)
 have hsum := hE 74 (mkR 99000 sumG) (by simp)
 obtain ⟨kd, ta, tb, tn, ts, tl, td⟩ := t
 unfold termS at hk
 dsimp only at ht hk
 clear hC hE
 obtain ⟨r, er⟩ : ∃ r : MS, r = (if kd = 2 then (c ++ [litT 1], cnt c, bad) else if kd = 7 then (c ++ [mkT 7 (dAt d ta) 0 0], cnt c, bad) else if kd = 5 then productS l d c bad ⟨kd, ta, tb, tn, (ts, tl, td)⟩ else if kd = 6 then quotientS l d c bad ⟨kd, ta, tb, tn, (ts, tl, td)⟩ else if kd = 8 then raisedS d c bad ⟨kd, ta, tb, tn, (ts, tl, td)⟩ else sumS l d c bad ⟨kd, ta, tb, tn, (ts, tl, td)⟩) := ⟨_, rfl⟩
 rw [← er] at hk
 cbv
 rcases ht with h | ⟨h, ha⟩ | ⟨h, ha, t0, t1⟩ | ⟨h, ha, hb⟩
 ·subst h
  (repeat ((refine tt ?_); cbv))
  refine mk_call hlit 2 r hr ⟨1, by omega, by omega, rfl, er⟩ hls hds hdn fun i n' cp' b' ys hi hb hr' => ?_
  cbv
  (repeat ((first | refine ln fun _ _ _ => ?_ | refine tt ?_ | refine ff ?_ | refine wr fun _ _ => ?_ | with_reducible refine bq ?_ | refine cl ?_ | refine sd ?_ | refine el ?_ | intro _ _); cbv))
  exact mk_end 4 (hk i _ _ _ _ hi hb hr')
 ·obtain ⟨bA, xA, e1, e2, e3, e4⟩ := ha.at hls hds
  obtain ⟨a0, a1, a2⟩ := ha
  subst h
  rw [if_neg (by omega), if_pos rfl, e2] at er
  (repeat ((first | refine tt ?_ | refine ff ?_ | refine sd ?_ | refine el ?_); cbv))
  refine mk_call hneg 2 r hr ⟨xA, rfl, er⟩ hls hds hdn fun i n' cp' b' ys hi hb hr' => ?_
  cbv
  (repeat ((first | refine ln fun _ _ _ => ?_ | refine tt ?_ | refine ff ?_ | refine wr fun _ _ => ?_ | with_reducible refine bq ?_ | refine cl ?_ | refine sd ?_ | refine el ?_ | intro _ _); cbv))
  exact mk_end 4 (hk i _ _ _ _ hi hb hr')
 ·subst h
  rw [if_neg (by omega), if_neg (by omega), if_neg (by omega), if_neg (by omega), if_pos rfl] at er
  (repeat ((first | refine tt ?_ | refine ff ?_); cbv))
  refine mk_call hrais 2 r hr ⟨⟨8, ta, tb, tn, (ts, tl, td)⟩, rfl, ha, ⟨t0, t1⟩, er⟩ hls hds hdn fun i n' cp' b' ys hi hb hr' => ?_
  cbv
  (repeat ((first | refine ln fun _ _ _ => ?_ | refine tt ?_ | refine ff ?_ | refine wr fun _ _ => ?_ | with_reducible refine bq ?_ | refine cl ?_ | refine sd ?_ | refine el ?_ | intro _ _); cbv))
  exact mk_end 4 (hk i _ _ _ _ hi hb hr')
 ·rcases h with h | h | h | h
  ·subst h
   rw [if_neg (by omega), if_neg (by omega), if_neg (by omega), if_neg (by omega), if_neg (by omega)] at er
   (repeat ((refine ff ?_); cbv))
   refine mk_call hsum 2 r hr ⟨⟨3, ta, tb, tn, (ts, tl, td)⟩, rfl, ha, hb, er⟩ hls hds hdn fun i n' cp' b' ys hi hb hr' => ?_
   cbv
   (repeat ((first | refine ln fun _ _ _ => ?_ | refine tt ?_ | refine ff ?_ | refine wr fun _ _ => ?_ | with_reducible refine bq ?_ | refine cl ?_ | refine sd ?_ | refine el ?_ | intro _ _); cbv))
   exact mk_end 4 (hk i _ _ _ _ hi hb hr')
  ·subst h
   rw [if_neg (by omega), if_neg (by omega), if_neg (by omega), if_neg (by omega), if_neg (by omega)] at er
   (repeat ((refine ff ?_); cbv))
   refine mk_call hsum 2 r hr ⟨⟨4, ta, tb, tn, (ts, tl, td)⟩, rfl, ha, hb, er⟩ hls hds hdn fun i n' cp' b' ys hi hb hr' => ?_
   cbv
   (repeat ((first | refine ln fun _ _ _ => ?_ | refine tt ?_ | refine ff ?_ | refine wr fun _ _ => ?_ | with_reducible refine bq ?_ | refine cl ?_ | refine sd ?_ | refine el ?_ | intro _ _); cbv))
   exact mk_end 4 (hk i _ _ _ _ hi hb hr')
  ·subst h
   rw [if_neg (by omega), if_neg (by omega), if_pos rfl] at er
   (repeat ((first | refine tt ?_ | refine ff ?_); cbv))
   refine mk_call hprod 2 r hr ⟨⟨5, ta, tb, tn, (ts, tl, td)⟩, rfl, ha, hb, er⟩ hls hds hdn fun i n' cp' b' ys hi hb hr' => ?_
   cbv
   (repeat ((first | refine ln fun _ _ _ => ?_ | refine tt ?_ | refine ff ?_ | refine wr fun _ _ => ?_ | with_reducible refine bq ?_ | refine cl ?_ | refine sd ?_ | refine el ?_ | intro _ _); cbv))
   exact mk_end 4 (hk i _ _ _ _ hi hb hr')
  ·subst h
   rw [if_neg (by omega), if_neg (by omega), if_neg (by omega), if_pos rfl] at er
   (repeat ((first | refine tt ?_ | refine ff ?_); cbv))
   refine mk_call hquot 2 r hr ⟨⟨6, ta, tb, tn, (ts, tl, td)⟩, rfl, ha, hb, er⟩ hls hds hdn fun i n' cp' b' ys hi hb hr' => ?_
   cbv
   (repeat ((first | refine ln fun _ _ _ => ?_ | refine tt ?_ | refine ff ?_ | refine wr fun _ _ => ?_ | with_reducible refine bq ?_ | refine cl ?_ | refine sd ?_ | refine el ?_ | intro _ _); cbv))
   exact mk_end 4 (hk i _ _ _ _ hi hb hr')
def lean1 (l : List Bool) (s : Int) (t : Tm) : Bool := if t.k = 2 then decide (t.n = s) else if t.k = 7 then bAt l t.a else if t.k = 8 then !decide (t.n = 0) && bAt l t.a else bAt l t.a || bAt l t.b
def leanS (l : List Bool) (s : Int) (q : Nat) (t : Tm) : List Bool := if t.k = 1 then l else l.set q (lean1 l s t)
def leanN (c : List Tm) (s : Int) : Nat → List Bool
 | 0 => List.replicate c.length false
 | q + 1 => match c[q]? with
  | some t => leanS (leanN c s q) s q t
  | none => leanN c s q
theorem leanN_len (c : List Tm) (s : Int) : ∀ q, cnt (leanN c s q) = cnt c
 | 0 => by unfold leanN cnt; rw [List.length_replicate]
 | q + 1 => by
  have := leanN_len c s q
  unfold leanN
  split
  ·unfold leanS
   split
   ·exact this
   ·unfold cnt at *; rw [List.length_set]; exact this
  ·exact this
theorem leanN_next {c : List Tm} {s i : Int} {t : Tm} (h0 : 0 ≤ i) (ht : c[i.toNat]? = some t) : leanN c s (i + 1).toNat = leanS (leanN c s i.toNat) s i.toNat t := by
 rw [show (i + 1).toNat = i.toNat + 1 by omega, leanN, ht]
def us32 (n : Int) : U := .v (.int .u32 n)
def is32 (n : Int) : U := .v (.int .i32 n)
def leanH (c : List Tm) (s st : Int) (l : U) : Heap := [some (.cells [us32 0, is32 st, us32 0, l]), some (.cells [.ptr 0 0]), some (.cells [cU c]), some (.cells [ui s])]
def leanR : HR := fun us h k => ∃ c s, goodC c = true ∧ cnt c ≤ 1000000 ∧ us = [.ptr 2 0, .ptr 1 0, .ptr 3 0] ∧ h = leanH c s 1 nilU ∧ k (.tup []) (leanH c s 1 (.sl 4 (cnt c) (cnt c) 1) ++ [some (.row 1 (uB (leanN c s c.length)))])
theorem lean_in : SoundH Tryz.prog 79 leanR := soundH [] [] orc_nil entH_nil Tryz.func79 (by kernel_rfl) (by kernel_rfl) fun us h k hR => by
 obtain ⟨c, s, hg, hn, rfl, rfl, hk⟩ := hR
 obtain ⟨r, hr⟩ : ∃ r, (cnt c).toNat < r := ⟨_, Nat.lt_succ_self _⟩
 refine ⟨r, fun C E hC hE => ?_⟩
 have hok : ∀ (q : Int) t, 0 ≤ q → c[q.toNat]? = some t → termOk t q = true := fun q t h0 ht => by
  have := goodC_iff.1 hg q.toNat t ht
  rwa [show (q.toNat : Int) = q by omega] at this
 have hcn := fun i (h0 : 0 ≤ i) (h1 : i < cnt c) => nth_map (c := c) tU h0 h1
 have hc := cnt_map c tU
 have hc0 := cnt0 c
 have hll := leanN_len c s
 have hnext := fun i t (h0 : 0 ≤ i) (ht : c[i.toNat]? = some t) => leanN_next (c := c) (s := s) (i := i) (t := t) h0 ht
 obtain ⟨uB, huB⟩ : ∃ f : List Bool → Rows, f = Rd.uB := ⟨_, rfl⟩
 have uB_len : ∀ s, cnt (uB s) = cnt s := fun s => by rw [huB]; exact Rd.uB_len s
 have uB_nth : ∀ {s : List Bool} {k : Int}, 0 ≤ k → k < cnt s → ∃ b, s[k.toNat]? = some b ∧ (uB s)[k.toNat]? = some [ub b] := fun {s k} h0 h1 => by rw [huB]; exact Rd.uB_nth h0 h1
 have uB_set : ∀ (s : List Bool) (k : Nat) (b : Bool), (uB s).set k [ub b] = uB (s.set k b) := fun s k b => by rw [huB]; exact Rd.uB_set s k b
 rw [← huB] at hk
 unfold leanH cU at *
 obtain ⟨L, hL⟩ : ∃ L : Nat → List Bool, L = leanN c s := ⟨_, rfl⟩
 have hL0 : L 0 = List.replicate c.length false := by rw [hL]; rfl
 rw [← hL] at hk hll hnext
 clear hL hg
 generalize c.map tU = xs at *
 cbv
 (repeat ((first | refine ln fun _ _ _ => ?_ | refine rp fun _ _ _ => ?_ | refine sd ?_); cbv))
 rename_i n hn hn0 rs hrs hrc n2 hn2 hn20
 have hnn : n2 = n := by omega
 subst hnn
 have e2 : rs = uB (L 0) := by
  rw [hrs, hL0, huB]
  unfold Rd.uB
  rw [List.map_replicate]
  congr 1
  unfold cnt at hc hn
  omega
 clear hrs hrc
 subst e2
 refine lets [0, 1, 2, 11, 12, 13] ?_
 cbv
 refine loop_inv (fun j a h => ∃ i : Int, 0 ≤ i ∧ i ≤ cnt c ∧ j = (cnt c - i).toNat ∧ a = [.ptr 2 0, .ptr 1 0, .ptr 3 0, .lost, .lost, .lost, .lost, .lost, .lost, .lost, .lost, .s 7 xs, ui n2, ui i, .lost, .lost, .lost, .lost, .lost, .lost, .lost, .lost, .lost, .lost, .lost, .lost, .lost, .lost, .lost, .lost, .lost, .lost, .lost, .lost, .lost, .lost, .lost, .lost, .lost, .lost, .lost, .lost, .lost, .lost, .lost, .lost, .lost, .lost, .lost, .lost, .lost, .lost, .lost, .lost, .lost, .lost, .lost, .lost, .lost, .lost, .lost, .lost, .lost, .lost, .lost, .lost, .lost, .lost, .lost, .lost, .lost, .lost, .lost, .lost, .lost, .lost, .lost, .lost, .lost, .lost, .lost, .lost, .lost, .lost, .lost, .lost, .lost, .lost, .lost, .lost, .lost, .lost, .lost, .lost, .lost, .lost, .lost, .lost, .lost] ∧ h = [some (.cells [us32 0, is32 1, us32 0, .sl 4 n2 n2 1]), some (.cells [.ptr 0 0]), some (.cells [.s 7 xs]), some (.cells [ui s]), some (.row 1 (uB (L i.toNat)))]) ?_ r (cnt c).toNat _ _ hr ⟨0, by omega, by omega, by omega, rfl, rfl⟩
 rintro j a h K ⟨i, i0, i1, hj, rfl, rfl⟩ hK
 rcases Decidable.em (i < cnt c) with hlt | hlt
 ·obtain ⟨t, ht, hx⟩ := hcn i i0 hlt
  have hcs := term_cases (hok i t i0 ht)
  have hnx := hnext i t i0 ht
  have hli := hll i.toNat
  have hrd := fun (x : Int) (x0 : 0 ≤ x) (x1 : x < i) => uB_nth (s := L i.toNat) x0 (by omega)
  obtain ⟨b0, hb0, hz0⟩ := uB_nth (s := L i.toNat) i0 (by omega)
  have hbA := fun (x : Int) (b : Bool) (e : (L i.toNat)[x.toNat]? = some b) => bAt_of e
  have hul := uB_len (L i.toNat)
  have hst : ∀ b ys, ys = (uB (L i.toNat)).set i.toNat [ub b] → L (i + 1).toNat = (L i.toNat).set i.toNat b → ys = uB (L (i + 1).toNat) := fun b ys e1 e2 => by rw [e1, e2, uB_set]
  have hK' := fun i' (e : i' = i + 1) => hK (cnt c - (i + 1)).toNat _ _ (by omega) ⟨i + 1, by omega, by omega, rfl, rfl, rfl⟩
  obtain ⟨kd, ta, tb, m, ts, tl, td⟩ := t
  unfold leanS lean1 at hnx
  dsimp only at hcs hnx
  generalize L (i + 1).toNat = L1 at *
  generalize L i.toNat = L0 at *
  generalize hU1 : uB L1 = U1 at *
  generalize hU0 : uB L0 = U0 at *
  clear hok hcn hnext hll hK hL0 ht
  cbv
  (repeat ((refine tt ?_); cbv))
  refine el ?_ (by omega) hx
  cbv
  rcases hcs with h | ⟨h, h2⟩ | ⟨h, h2, h3⟩ | ⟨h, h2⟩ | ⟨h, h2, h3⟩
  ·subst h
   rw [if_pos rfl] at hnx
   subst hnx
   rw [hU0] at hU1
   subst hU1
   (repeat ((first | refine ff ?_ | refine wr fun _ _ => ?_); cbv))
   rename_i q' hq'
   refine lets [0, 1, 2, 11, 12, 13] ?_
   rw [hq']
   exact hK' _ rfl
  ·subst h
   rw [if_neg (by omega), if_pos rfl] at hnx
   rcases Decidable.em (m = s) with h1 | h1
   ·rw [decide_eq_true h1] at hnx
    (repeat ((first | refine tt ?_ | refine sd ?_); cbv))
    refine el ?_ (by omega) hz0
    cbv
    refine se fun ys e hyc => ?_
    have e2 := hst _ ys e hnx
    clear e hyc
    subst e2
    cbv
    (repeat (((refine wr fun _ _ => ?_)); cbv))
    rename_i q' hq'
    refine lets [0, 1, 2, 11, 12, 13] ?_
    rw [hq']
    exact hK' _ rfl
   ·rw [decide_eq_false h1] at hnx
    (repeat ((first | refine tt ?_ | refine ff ?_ | refine sd ?_); cbv))
    refine el ?_ (by omega) hz0
    cbv
    refine se fun ys e hyc => ?_
    have e2 := hst _ ys e hnx
    clear e hyc
    subst e2
    cbv
    (repeat (((refine wr fun _ _ => ?_)); cbv))
    rename_i q' hq'
    refine lets [0, 1, 2, 11, 12, 13] ?_
    rw [hq']
    exact hK' _ rfl
  ·obtain ⟨bA, e1, e2⟩ := hrd ta h2.1 h2.2
   obtain ⟨bB, f1, f2⟩ := hrd tb h3.1 h3.2
   rw [if_neg (by omega), if_neg (by omega), if_neg (by omega), if_neg (by omega), hbA _ _ e1, hbA _ _ f1] at hnx
   cases bA
   ·rcases h with h | h | h | h <;> subst h <;> (
     (repeat ((first | refine tt ?_ | refine ff ?_ | refine sd ?_); cbv))
     refine el ?_ (by omega) e2
     cbv
     (repeat ((refine sd ?_); cbv))
     refine el ?_ (by omega) f2
     cbv
     (repeat ((refine sd ?_); cbv))
     refine el ?_ (by omega) hz0
     cbv
     refine se fun ys e hyc => ?_
     have e2 := hst bB ys e hnx
     clear e hyc
     subst e2
     cbv
     (repeat (((refine wr fun _ _ => ?_)); cbv))
     rename_i q' hq'
     refine lets [0, 1, 2, 11, 12, 13] ?_
     rw [hq']
     exact hK' _ rfl)
   ·rcases h with h | h | h | h <;> subst h <;> (
     (repeat ((first | refine tt ?_ | refine ff ?_ | refine sd ?_); cbv))
     refine el ?_ (by omega) e2
     cbv
     (repeat ((refine sd ?_); cbv))
     refine el ?_ (by omega) hz0
     cbv
     refine se fun ys e hyc => ?_
     have e2 := hst true ys e hnx
     clear e hyc
     subst e2
     cbv
     (repeat (((refine wr fun _ _ => ?_)); cbv))
     rename_i q' hq'
     refine lets [0, 1, 2, 11, 12, 13] ?_
     rw [hq']
     exact hK' _ rfl)
  ·obtain ⟨bA, e1, e2⟩ := hrd ta h2.1 h2.2
   rw [if_neg (by omega), if_neg (by omega), if_pos h, hbA _ _ e1] at hnx
   subst h
   (repeat ((first | refine tt ?_ | refine ff ?_ | refine sd ?_); cbv))
   refine el ?_ (by omega) e2
   cbv
   (repeat ((refine sd ?_); cbv))
   refine el ?_ (by omega) hz0
   cbv
   refine se fun ys e hyc => ?_
   have e2 := hst bA ys e hnx
   clear e hyc
   subst e2
   cbv
   (repeat (((refine wr fun _ _ => ?_)); cbv))
   rename_i q' hq'
   refine lets [0, 1, 2, 11, 12, 13] ?_
   rw [hq']
   exact hK' _ rfl
  ·obtain ⟨bA, e1, e2⟩ := hrd ta h2.1 h2.2
   rw [if_neg (by omega), if_neg (by omega), if_neg (by omega), if_pos h, hbA _ _ e1] at hnx
   subst h
   rcases Decidable.em (m = 0) with h1 | h1
   ·rw [decide_eq_true h1] at hnx
    have hnx : L1 = L0.set i.toNat false := hnx
    (repeat ((first | refine tt ?_ | refine ff ?_ | refine sd ?_); cbv))
    refine el ?_ (by omega) hz0
    cbv
    refine se fun ys e hyc => ?_
    have e2 := hst false ys e hnx
    clear e hyc
    subst e2
    cbv
    (repeat (((refine wr fun _ _ => ?_)); cbv))
    rename_i q' hq'
    refine lets [0, 1, 2, 11, 12, 13] ?_
    rw [hq']
    exact hK' _ rfl
   ·rw [decide_eq_false h1] at hnx
    have hnx : L1 = L0.set i.toNat bA := hnx
    (repeat ((first | refine tt ?_ | refine ff ?_ | refine sd ?_); cbv))
    refine el ?_ (by omega) e2
    cbv
    (repeat ((refine sd ?_); cbv))
    refine el ?_ (by omega) hz0
    cbv
    refine se fun ys e hyc => ?_
    have e2 := hst bA ys e hnx
    clear e hyc
    subst e2
    cbv
    (repeat (((refine wr fun _ _ => ?_)); cbv))
    rename_i q' hq'
    refine lets [0, 1, 2, 11, 12, 13] ?_
    rw [hq']
    exact hK' _ rfl
 ·have hfin : L i.toNat = L c.length := by congr 1; unfold cnt at hlt i1; omega
  rw [hfin]
  have hnc : n2 = cnt c := by omega
  rw [← hnc] at hk
  clear hK hnext hll hL0 hfin
  generalize hU0 : uB (L c.length) = U0 at *
  cbv
  (repeat ((refine ff ?_); cbv))
  exact ⟨⟨[4], [], [some (.cells [us32 0, is32 1, us32 0, .sl 4 n2 n2 1]), some (.cells [.ptr 0 0]), some (.cells [.s 7 xs]), some (.cells [ui s]), some (.row 1 U0)], ⟨rfl, trivial, ⟨_, rfl, rfl, rfl, rfl, ⟨4, rfl, rfl⟩, trivial⟩, ⟨_, rfl, ⟨0, rfl, rfl⟩, trivial⟩, ⟨_, rfl, rfl, trivial⟩, ⟨_, rfl, rfl, trivial⟩, rfl, trivial⟩, hk⟩⟩
def leanOfR : HR := fun us h k => ∃ c s, goodC c = true ∧ cnt c ≤ 1000000 ∧ us = [.ptr 0 0, cU c, ui s] ∧ h = [some (.cells [us32 0, is32 0, us32 0, nilU])] ∧ k (.sl 1 (cnt c) (cnt c) 1) [none, some (.row 1 (uB (leanN c s c.length)))]
theorem leanOf_in : SoundH Tryz.prog 43 leanOfR := soundH [] [(78, doR 79 leanR)] orc_nil (entH_cons (do_ok lean_in) entH_nil) Tryz.func43 (by kernel_rfl) (by kernel_rfl) fun us h k hR => by
 obtain ⟨c, s, hg, hn, rfl, rfl, hk⟩ := hR
 refine ⟨0, fun C E hC hE => ?_⟩
 have hdo := hE 78 (doR 79 leanR) (by simp)
 have hin := fun k' hk' => hdo [.ptr 0 0, .clo 79 [.ptr 2 0, .ptr 1 0, .ptr 3 0]] (leanH c s 0 nilU) k' (.inl ⟨0, 0, _, _, rfl, rfl, rfl, rfl, c, s, hg, hn, rfl, rfl, _, rfl, rfl, rfl, hk'⟩)
 have hc0 := cnt0 c
 clear hC hE hdo hg
 unfold leanH cU at *
 generalize c.map tU = xs at *
 generalize cnt c = n at *
 generalize uB (leanN c s c.length) = U0 at *
 cbv
 (repeat ((first | refine ln fun _ _ _ => ?_ | refine tt ?_ | refine ff ?_ | refine wr fun _ _ => ?_ | refine rp fun _ _ _ => ?_ | with_reducible refine bq ?_ | refine cl ?_ | refine sd ?_ | intro _ _); cbv))
 refine hin _ ?_
 clear hin
 cbv
 (repeat ((first | refine ln fun _ _ _ => ?_ | refine tt ?_ | refine ff ?_ | refine wr fun _ _ => ?_ | refine rp fun _ _ _ => ?_ | with_reducible refine bq ?_ | refine cl ?_ | refine sd ?_ | intro _ _); cbv))
 exact ⟨⟨[4], [.sl 1 n n 1], [none, some (.row 1 U0)], ⟨rfl, ⟨⟨4, rfl, rfl⟩, trivial⟩, trivial, rfl, trivial⟩, hk⟩⟩
def leansU (c : List Tm) (i s : Int) : U := if mayC c i = true then .s 1 (uB (leanN c s c.length)) else nilU
def leansR (us : List U) (u : U) : Prop := ∃ c i s, (∀ t ∈ c, LB t.q) ∧ cnt c ≤ 1000000 ∧ us = [cU c, ui i, ui s] ∧ u = leansU c i s
theorem leans_ok : SoundF Tryz.prog 15 leansR := soundG [(35, needsR)] [(43, leanOfR)] (orc_cons needs_ok orc_nil) (entH_cons leanOf_in entH_nil) Tryz.func15 (by kernel_rfl) (by kernel_rfl) fun us u hR => ⟨0, fun C E hC hE => by
 obtain ⟨c, i, s, hq, hn, rfl, hu⟩ := hR
 have k1 := hC 35 needsR (by simp) _ _ ⟨c, i, hq, hn, rfl, rfl⟩
 have hof := hE 43 leanOfR (by simp)
 have hin := fun hg k' hk' => hof [.ptr 0 0, cU c, ui s] [some (.cells [us32 0, is32 0, us32 0, nilU])] k' (.inl ⟨c, s, hg, hn, rfl, rfl, hk'⟩)
 have hl := leanN_len c s c.length
 have hul := uB_len (leanN c s c.length)
 have hc0 := cnt0 c
 have hnl := needs_len c i.toNat
 unfold leansU at hu
 unfold needsU at k1
 clear hC hE hof hq
 cases hmc : mayC c i
 ·rw [hmc, if_neg (by simp)] at k1 hu
  unfold cU at *
  generalize c.map tU = xs at *
  cbv
  (repeat ((refine cl ?_); cbv))
  exact hu.symm
 ·rw [hmc, if_pos rfl] at k1 hu
  have hin := hin (by unfold mayC at hmc; simp only [Bool.and_eq_true] at hmc; exact hmc.2)
  have hpos : 0 < cnt c := by
   unfold mayC at hmc
   simp only [Bool.and_eq_true, decide_eq_true_eq] at hmc
   omega
  obtain ⟨y, nds, hns⟩ : ∃ y ys, uB (needs c i.toNat) = y :: ys := by
   cases h : uB (needs c i.toNat) with
   | nil =>
    have := uB_len (needs c i.toNat)
    rw [h, hnl] at this
    have h0 : cnt ([] : Rows) = 0 := rfl
    omega
   | cons y ys => exact ⟨y, ys, rfl⟩
  rw [hns] at k1
  unfold cU at *
  generalize c.map tU = xs at *
  generalize uB (leanN c s c.length) = U0 at *
  generalize hcn : cnt c = n at *
  cbv
  (repeat ((refine cl ?_); cbv))
  refine hin _ ?_
  cbv
  (repeat ((first | refine sd ?_ | intro _ _); cbv))
  rename_i ys e
  rw [hu, e, List.take_of_length_le (by unfold cnt at *; omega)]⟩
def fillR (z : List U) (cs : Rows) (q : Int) : Rows := cs.take q.toNat ++ List.replicate (cnt cs - q).toNat z
theorem fill_len {z : List U} {cs : Rows} {q : Int} (h0 : 0 ≤ q) (h1 : q ≤ cnt cs) : cnt (fillR z cs q) = cnt cs := by
 unfold fillR cnt at *
 rw [List.length_append, List.length_take, List.length_replicate]
 omega
theorem fill_at {z : List U} {cs : Rows} {q : Int} (h0 : 0 ≤ q) (h1 : q < cnt cs) : (fillR z cs q)[q.toNat]? = some z := by
 unfold fillR cnt at *
 rw [List.getElem?_append_right (by rw [List.length_take]; omega), List.length_take, List.getElem?_replicate, if_pos (by omega)]
theorem fill_next {z y : List U} {cs : Rows} {q : Int} (h0 : 0 ≤ q) (hy : cs[q.toNat]? = some y) : (fillR z cs q).set q.toNat y = fillR z cs (q + 1) := by
 have hlt := (List.getElem?_eq_some_iff.1 hy).1
 unfold fillR cnt
 have hl : (cs.take q.toNat).length = q.toNat := by rw [List.length_take]; omega
 rw [List.set_append_right _ _ (by omega), hl, Nat.sub_self, show ((cs.length : Int) - q).toNat = ((cs.length : Int) - (q + 1)).toNat + 1 by omega, List.replicate_succ, List.set_cons_zero, show (q + 1).toNat = q.toNat + 1 by omega, List.take_add_one, hy]
 simp
theorem fill_all {z : List U} {cs : Rows} : fillR z cs (cnt cs) = cs := by
 unfold fillR cnt
 simp
theorem fill_none {z : List U} {cs : Rows} : fillR z cs 0 = List.replicate cs.length z := by
 unfold fillR cnt
 simp
def copiedR : HR := fun us h k => ∃ c, (∀ t ∈ c, LB t.q ∧ (t.k = 1 → goodB t.q = true)) ∧ cnt c ≤ 1000000 ∧ us = [cU c] ∧ h = [] ∧ k (.sl 0 (cnt c) (cnt c) 7) [some (.row 7 (c.map tU))]
theorem copied_in : SoundH Tryz.prog 36 copiedR := soundH [(69, rNegR)] [] (orc_cons rNeg_ok orc_nil) entH_nil Tryz.func36 (by kernel_rfl) (by kernel_rfl) fun us h k hR => by
 obtain ⟨c, hb, hn, rfl, rfl, hk⟩ := hR
 obtain ⟨r, hr⟩ : ∃ r, (cnt c).toNat < r := ⟨_, Nat.lt_succ_self _⟩
 refine ⟨r, fun C E hC hE => ?_⟩
 have kN := hC 69 rNegR (by simp)
 have hm := fun i (h0 : 0 ≤ i) (h1 : i < cnt c) => nth_map (c := c) tU h0 h1
 have hc := cnt_map c tU
 have hc0 := cnt0 c
 unfold cU at *
 generalize c.map tU = cs at *
 obtain ⟨F, hF⟩ : ∃ F : Int → Rows, F = fillR [ui 0, ui 0, ui 0, ui 0, ub false, .l [], .l []] cs := ⟨_, rfl⟩
 have F0 : F 0 = List.replicate cs.length [ui 0, ui 0, ui 0, ui 0, ub false, .l [], .l []] := by rw [hF]; exact fill_none
 have Fn : F (cnt cs) = cs := by rw [hF]; exact fill_all
 have Fl := fun q (h0 : 0 ≤ q) (h1 : q ≤ cnt cs) => fill_len (z := [ui 0, ui 0, ui 0, ui 0, ub false, .l [], .l []]) (cs := cs) h0 h1
 have Fa := fun q (h0 : 0 ≤ q) (h1 : q < cnt cs) => fill_at (z := [ui 0, ui 0, ui 0, ui 0, ub false, .l [], .l []]) (cs := cs) h0 h1
 have Fs := fun q y (h0 : 0 ≤ q) (hy : cs[q.toNat]? = some y) => fill_next (z := [ui 0, ui 0, ui 0, ui 0, ub false, .l [], .l []]) (cs := cs) h0 hy
 rw [← hF] at Fl Fa Fs
 clear hC hE hF
 cbv
 (repeat ((first | with_reducible refine ln fun _ _ _ => ?_ | refine rp fun _ _ _ => ?_ | refine sd ?_); cbv))
 rename_i n hn1 hn2 rs hrs hrc n2 hn3 hn4
 have hnn : n2 = n := by omega
 subst hnn
 have e2 : rs = F 0 := by
  rw [hrs, F0]
  congr 1
  unfold cnt at hn1
  omega
 clear hrs hrc
 subst e2
 refine lets [3, 9, 10, 11] ?_
 cbv
 refine loop_inv (fun j a h => ∃ q : Int, 0 ≤ q ∧ q ≤ cnt cs ∧ j = (cnt cs - q).toNat ∧ a = [.lost, .lost, .lost, .sl 0 n2 n2 7, .lost, .lost, .lost, .lost, .lost, .s 7 cs, ui n2, ui q, .lost, .lost, .lost, .lost, .lost, .lost, .lost, .lost, .lost, .lost, .lost, .lost, .lost, .lost, .lost, .lost, .lost, .lost] ∧ h = [some (.row 7 (F q))]) ?_ r (cnt cs).toNat _ _ (by omega) ⟨0, by omega, by omega, by omega, rfl, rfl⟩
 rintro j a h K ⟨q, q0, q1, hj, rfl, rfl⟩ hK
 rcases Decidable.em (q < cnt cs) with hlt | hlt
 ·obtain ⟨t, ht, hy⟩ := hm q q0 (by omega)
  obtain ⟨hq, hg⟩ := hb t (List.mem_of_getElem? ht)
  have hz := Fa q q0 hlt
  have hs := Fs q _ q0 hy
  have hl := Fl q q0 q1
  have hK' := hK (cnt cs - (q + 1)).toNat _ _ (by omega) ⟨q + 1, by omega, by omega, rfl, rfl, rfl⟩
  obtain ⟨kd, ta, tb, m, s, l, dd⟩ := t
  dsimp only at hq hg
  generalize F (q + 1) = F1 at *
  generalize F q = F2 at *
  clear hm hb hK hk Fa Fs Fl F0 Fn
  cbv
  (repeat ((refine tt ?_); cbv))
  refine el ?_ (by omega) hy
  clear hy ht
  cbv
  rcases Decidable.em (kd = 1) with h1 | h1
  ·have hg := own_good (hg h1)
   obtain ⟨s1, l1, d1, k1, i1⟩ := tR (kN _ _ ⟨_, hq, rfl, rfl⟩)
   have k2 := kN _ _ ⟨(s1, l1, d1), i1 ▸ LB_neg _, rfl, rfl⟩
   rw [show negS (s1, l1, d1) = ownS (s, l, dd) by rw [i1]; rfl, hg] at k2
   have k2 : C 69 [.agg [ub s1, .l l1, .l d1]] (.agg [ub s, .l l, .l dd]) := k2
   clear i1 kN hg hq
   subst h1
   (repeat ((first | refine tt ?_ | refine cl ?_ | refine sd ?_); cbv))
   refine el ?_ (by omega) hz
   cbv
   refine se fun ys e hyc => ?_
   have e2 : ys = F1 := e.trans hs
   clear e hyc
   subst e2
   cbv
   (repeat (((with_reducible refine wr fun _ _ => ?_)); cbv))
   rename_i q' hq'
   refine lets [3, 9, 10, 11] ?_
   rw [hq']
   exact hK'
  ·(repeat ((first | refine ff ?_ | refine sd ?_); cbv))
   refine el ?_ (by omega) hz
   cbv
   refine se fun ys e hyc => ?_
   have e2 : ys = F1 := e.trans hs
   clear e hyc
   subst e2
   cbv
   (repeat (((with_reducible refine wr fun _ _ => ?_)); cbv))
   rename_i q' hq'
   refine lets [3, 9, 10, 11] ?_
   rw [hq']
   exact hK'
 ·have hqn : q = cnt cs := by omega
  rw [show F q = cs by rw [hqn, Fn]]
  have hcn : n2 = cnt c := by omega
  rw [← hcn] at hk
  clear hK hm hb Fa Fs Fl F0 Fn
  cbv
  refine ff ?_
  cbv
  exact ⟨⟨[0], [.sl 0 n2 n2 7], [some (.row 7 cs)], ⟨rfl, ⟨⟨0, rfl, rfl⟩, trivial⟩, rfl, trivial⟩, hk⟩⟩
def ixN (n : Nat) (rs : List Nat) (id : Nat) : Nat := n + ix rs id
def okW (n : Nat) (L rs : List Nat) (a : List U) (h : Heap) : Bool := decide (n ≤ h.length) && (keepT L a).all (seeU rs) && (rs.all fun j => seeO rs (heapAt h j)) && (rs.all fun j => decide (j < h.length)) && decide rs.Nodup
theorem ixN_at {n : Nat} {rs : List Nat} {i : Nat} (h : rs.contains i = true) : (List.range n ++ rs)[ixN n rs i]? = some i := by
 unfold ixN
 rw [List.getElem?_append_right (by simp)]
 simpa using ix_at h
theorem bare_oldN {n : Nat} {us : List U} (h : us.all U.bare = true) : us.all (old1 n) = true := by
 rw [List.all_eq_true] at *
 intro u hu
 have := h u hu
 cases u <;> first | exact this | cases this
theorem see_wkN {n : Nat} {rs : List Nat} {u : U} (h : seeU rs u = true) : wkU n (List.range n ++ rs) u (renU (ixN n rs) u) := by
 cases u with
 | ptr i off => exact ⟨i, ixN_at h, rfl⟩
 | pe i k x off => exact ⟨i, ixN_at h, rfl⟩
 | sl i n c k => exact ⟨i, ixN_at h, rfl⟩
 | agg us =>
  have e : renU (ixN n rs) (.agg us) = .agg us := by show U.agg _ = _; rw [bare_ren h]
  rw [e]
  exact ⟨bare_oldN h, rfl⟩
 | clo f us =>
  have e : renU (ixN n rs) (.clo f us) = .clo f us := by show U.clo f _ = _; rw [bare_ren h]
  rw [e]
  exact ⟨bare_oldN h, rfl⟩
 | tup us => cases h
 | lost => trivial
 | _ => rfl
theorem see_wkAN {n : Nat} {rs : List Nat} : ∀ {us : List U}, us.all (seeU rs) = true → wkA n (List.range n ++ rs) us (us.map (renU (ixN n rs)))
 | [], _ => trivial
 | u :: us, h => by
  rw [List.all_cons, Bool.and_eq_true] at h
  exact ⟨see_wkN h.1, see_wkAN h.2⟩
theorem keep_wkN {n : Nat} {rs L : List Nat} : ∀ {a : List U} {i : Nat}, (keepFrom L i a).all (seeU rs) = true → wkA n (List.range n ++ rs) a ((keepFrom L i a).map (renU (ixN n rs)))
 | [], _, _ => trivial
 | u :: us, i, h => by
  unfold keepFrom at h ⊢
  rw [List.all_cons, Bool.and_eq_true] at h
  refine ⟨?_, keep_wkN h.2⟩
  split
  ·rename_i hc
   rw [if_pos hc] at h
   exact see_wkN h.1
  ·trivial
theorem see_wkHN {n : Nat} {JS : List Nat} {h : Heap} : ∀ {rs : List Nat}, (rs.all fun j => seeO JS (heapAt h j)) = true → wkH n (List.range n ++ JS) h rs (rs.map fun j => renO (ixN n JS) (heapAt h j))
 | [], _ => trivial
 | j :: rs, hc => by
  rw [List.all_cons, Bool.and_eq_true] at hc
  refine ⟨?_, see_wkHN hc.2⟩
  show wkO n (List.range n ++ JS) h j (renO (ixN n JS) (heapAt h j))
  cases e : heapAt h j with
  | none => rw [e] at hc; exact absurd hc.1 (by simp [seeO])
  | some ob =>
   rw [e] at hc
   cases ob with
   | cells us => exact ⟨us, e, see_wkAN hc.1⟩
   | row k xs => exact e
   | lim xs => exact e
theorem wkH_gone {n : Nat} {JS : List Nat} {h os : Heap} {rs : List Nat} (hr : wkH n JS h rs os) : ∀ {js : List Nat}, wkH n JS h (js ++ rs) (List.replicate js.length none ++ os)
 | [] => hr
 | j :: js => ⟨trivial, wkH_gone hr⟩
theorem alive_gone : ∀ {js rs : List Nat} {os : Heap}, alive (js ++ rs) (List.replicate js.length none ++ os) = alive rs os
 | [], _, _ => rfl
 | j :: js, rs, os => alive_gone (js := js)
theorem letsW {n : Nat} {a : List U} {h : Heap} {k : List U → Heap → Prop} (L rs : List Nat) (hk : k ((keepT L a).map (renU (ixN n rs))) (List.replicate n none ++ rs.map fun j => renO (ixN n rs) (heapAt h j))) (hc : okW n L rs a h = true := by rfl) : weak n a h k := by
 unfold okW at hc
 simp only [Bool.and_eq_true, decide_eq_true_eq] at hc
 obtain ⟨⟨⟨⟨h1, h2⟩, h3⟩, h4⟩, h5⟩ := hc
 refine ⟨⟨rs, _, _, ⟨?_, keep_wkN h2, ?_⟩, hk⟩⟩
 ·unfold keepsA
  have e := alive_gone (js := List.range n) (rs := rs) (os := rs.map fun j => renO (ixN n rs) (heapAt h j))
  rw [List.length_range] at e
  rw [e]
  have := ((alive_sub rs (rs.map fun j => renO (ixN n rs) (heapAt h j))).nodup h5)
  simp only [h1, decide_true, Bool.true_and, Bool.and_eq_true, decide_eq_true_eq]
  exact ⟨h4, this⟩
 ·have e := wkH_gone (js := List.range n) (see_wkHN (n := n) (JS := rs) (h := h) h3)
  rw [List.length_range] at e
  exact e
def derN (c : List Tm) (l nd : List Bool) (n : Nat) : Nat → List Tm × List Int × Bool
 | 0 => (c.take n, List.replicate n 0, false)
 | q + 1 => if nd[q]? = some true ∧ l[q]? = some true then (match c[q]? with
  | some t => ((termS l (derN c l nd n q).2.1 (derN c l nd n q).1 (derN c l nd n q).2.2 t).1, (derN c l nd n q).2.1.set q (termS l (derN c l nd n q).2.1 (derN c l nd n q).1 (derN c l nd n q).2.2 t).2.1, (termS l (derN c l nd n q).2.1 (derN c l nd n q).1 (derN c l nd n q).2.2 t).2.2)
  | none => derN c l nd n q) else derN c l nd n q
def derAll (c : List Tm) (i s : Int) : List Tm × List Int × Bool := derN c (leanN c s c.length) (needs c i.toNat) (i.toNat + 1) (i.toNat + 1)
def derS (c : List Tm) (i s : Int) : List Tm × Int × Int :=
 if mayC c i = true ∧ 0 ≤ s then
  (if bAt (leanN c s c.length) i = true then (if (derAll c i s).2.2 = true ∨ 32000 < cnt (derAll c i s).1 then ([], 0, 2) else ((derAll c i s).1, dAt (derAll c i s).2.1 i, 0))
  else (if (derAll c i s).2.2 = true ∨ 32000 < cnt (derAll c i s).1 + 1 then ([], 0, 2) else ((derAll c i s).1 ++ [litT 0], cnt (derAll c i s).1, 0)))
 else ([], 0, 1)
def derU (r : List Tm × Int × Int) : U := .tup [if r.2.2 = 0 then cU r.1 else nilU, ui r.2.1, ui r.2.2]
theorem cnt_term (l : List Bool) (d : List Int) (c : List Tm) (bad : Bool) (t : Tm) : cnt c ≤ cnt (termS l d c bad t).1 ∧ cnt (termS l d c bad t).1 ≤ cnt c + 5 := by
 unfold termS productS quotientS raisedS sumS
 repeat' split
 all_goals (simp only [cnt_app]; omega)
theorem der_len (c : List Tm) (l nd : List Bool) (n : Nat) : ∀ q, cnt (derN c l nd n q).2.1 = n
 | 0 => by unfold derN cnt; simp
 | q + 1 => by
  have := der_len c l nd n q
  unfold derN
  split
  ·split
   ·unfold cnt at *
    rw [List.length_set]
    exact this
   ·exact this
  ·exact this
theorem der_cnt (c : List Tm) (l nd : List Bool) (n : Nat) : ∀ q : Nat, cnt (derN c l nd n q).1 ≤ cnt c + 5 * q
 | 0 => by
  unfold derN cnt
  rw [List.length_take]
  omega
 | q + 1 => by
  have := der_cnt c l nd n q
  unfold derN
  split
  ·split
   ·have := (cnt_term l (derN c l nd n q).2.1 (derN c l nd n q).1 (derN c l nd n q).2.2 (by assumption)).2
    push_cast
    omega
   ·push_cast; omega
  ·push_cast; omega
theorem sw {α : Type} {x y : α} {K : α → Prop} (e : x = y) (h : K y) : ∀ z, z = x → K z := fun z hz => by rw [hz, e]; exact h
theorem wrE {e v : Int} {K : Int → Prop} (h : K v) (hv : e = v) (hp : -9223372036854775808 ≤ e ∧ e ≤ 9223372036854775807 := by omega) : ∀ r, r = IntKind.i64.wrap e → K r := fun r hr => by rw [hr, wi64 hp.1 hp.2, hv]; exact h
theorem lnE {α : Type} {xs : List α} {v : Int} {K : Int → Prop} (h : K v) (hv : cnt xs = v) : ∀ n, n = cnt xs → K n := fun n hn => by rw [hn, hv]; exact h
def mkX (l ds : Rows) (dn n cp : Int) (bad : Bool) (xs : Rows) : Heap := [none, none, none, some (.cells [.sl 5 n cp 7, .s 1 l, .sl 4 dn dn 1, ub bad]), some (.row 1 ds), some (.row 7 xs)]
theorem letsM {a : List U} {h : Heap} {k : List U → Heap → Prop} {l ds xs : Rows} {dn n cp : Int} {bad : Bool} (L : List Nat) (m d c : Nat) (hk : k ((keepT L a).map (renU (ixN 3 [m, d, c]))) (mkX l ds dn n cp bad xs)) (hh : [m, d, c].map (fun j => renO (ixN 3 [m, d, c]) (heapAt h j)) = [some (.cells [.sl 5 n cp 7, .s 1 l, .sl 4 dn dn 1, ub bad]), some (.row 1 ds), some (.row 7 xs)] := by rfl) (hc : okW 3 L [m, d, c] a h = true := by rfl) : weak 3 a h k := by
 refine letsW L [m, d, c] ?_ hc
 rw [hh]
 exact hk
theorem lean_lit {c : List Tm} {s : Int} {q : Nat} {t : Tm} (ht : c[q]? = some t) (h1 : t.k = 1) : ∀ N, (leanN c s N)[q]? = some false
 | 0 => by
  have := (List.getElem?_eq_some_iff.1 ht).1
  unfold leanN
  rw [List.getElem?_replicate, if_pos this]
 | N + 1 => by
  have ih := lean_lit (s := s) ht h1 N
  unfold leanN
  split
  ·rename_i t' ht'
   unfold leanS
   split
   ·exact ih
   ·rename_i hk
    rw [List.getElem?_set]
    split
    ·rename_i e
     subst e
     rw [ht] at ht'
     injection ht' with ht'
     rw [← ht'] at hk
     exact absurd h1 hk
    ·exact ih
  ·exact ih
theorem der_no {c : List Tm} {l nd : List Bool} {m : Nat} {q : Int} (h0 : 0 ≤ q) (h : ¬ (nd[q.toNat]? = some true ∧ l[q.toNat]? = some true)) : derN c l nd m (q + 1).toNat = derN c l nd m q.toNat := by
 rw [show (q + 1).toNat = q.toNat + 1 by omega, derN, if_neg h]
theorem der_yes {c : List Tm} {l nd : List Bool} {m : Nat} {q : Int} {cc : List Tm} {dd : List Int} {bd : Bool} {t : Tm} (h0 : 0 ≤ q) (h : derN c l nd m q.toNat = (cc, dd, bd)) (h1 : nd[q.toNat]? = some true) (h2 : l[q.toNat]? = some true) (ht : c[q.toNat]? = some t) : derN c l nd m (q + 1).toNat = ((termS l dd cc bd t).1, dd.set q.toNat (termS l dd cc bd t).2.1, (termS l dd cc bd t).2.2) := by
 rw [show (q + 1).toNat = q.toNat + 1 by omega, derN, if_pos ⟨h1, h2⟩, ht, h]
theorem share {P : Rows → Prop} {Q : Prop} (X : Rows) (h1 : (∀ dr, dr = X → P dr) → Q) (h2 : ∀ dr, dr = X → P dr) : Q := h1 h2
theorem small7 {x y q : Int} (h1 : x ≤ y + 5 * q) (h2 : y ≤ 1000) (h3 : q ≤ y) : ¬ 32000 < x + 1 ∧ ¬ 32000 < x := by omega
theorem derU_ok (x : List Tm) (i : Int) : U.tup [.s 7 (x.map tU), ui i, ui 0] = derU (x, i, 0) := by unfold derU cU; rw [if_pos rfl]
def diffOfR (us : List U) (u : U) : Prop := ∃ c i s, (∀ t ∈ c, LB t.q) ∧ cnt c ≤ 1000 ∧ us = [cU c, ui i, ui s] ∧ u = derU (derS c i s)
theorem diffOf_ok : SoundF Tryz.prog 11 diffOfR := soundG [(35, needsR), (15, leansR)] [(36, copiedR), (37, mkR 99000 termG), (38, mkR 100000 litG)] (orc_cons needs_ok (orc_cons leans_ok orc_nil)) (entH_cons copied_in (entH_cons term_inH (entH_cons lit_in entH_nil))) Tryz.func11 (by kernel_rfl) (by kernel_rfl) fun us u hR => by
 obtain ⟨c, i, s, hq, hn, rfl, hu⟩ := hR
 obtain ⟨r, hr⟩ : ∃ r, (cnt c).toNat + 10 < r := ⟨_, Nat.lt_succ_self _⟩
 refine ⟨r, fun C E hC hE => ?_⟩
 have k1 := hC 35 needsR (by simp) _ _ ⟨c, i, hq, by omega, rfl, rfl⟩
 have k2 := hC 15 leansR (by simp) _ _ ⟨c, i, s, hq, by omega, rfl, rfl⟩
 have hcop := hE 36 copiedR (by simp)
 have hterm := hE 37 (mkR 99000 termG) (by simp)
 have hlit := hE 38 (mkR 100000 litG) (by simp)
 have hcn := fun i (h0 : 0 ≤ i) (h1 : i < cnt c) => nth_map (c := c) tU h0 h1
 have hc := cnt_map c tU
 have hc0 := cnt0 c
 have hnl := needs_len c i.toNat
 have hll := leanN_len c s c.length
 unfold derS at hu
 unfold needsU at k1
 unfold leansU at k2
 clear hC hE
 cases hmc : mayC c i
 ·rw [hmc, if_neg (by simp)] at k1
  rw [hmc, if_neg (by simp)] at hu
  unfold cU at *
  generalize c.map tU = xs at *
  clear hcop hterm hlit k2
  cbv
  (repeat ((refine cl ?_); cbv))
  exact hu.symm
 rw [hmc, if_pos rfl] at k1 k2
 rw [hmc] at hu
 have hm3 : 0 ≤ i ∧ i < cnt c ∧ goodC c = true := by
  unfold mayC at hmc
  simp only [Bool.and_eq_true, decide_eq_true_eq] at hmc
  exact ⟨hmc.1.1, hmc.1.2, hmc.2⟩
 obtain ⟨hi0, hi1, hg⟩ := hm3
 have hok : ∀ (q : Int) t, 0 ≤ q → c[q.toNat]? = some t → termOk t q = true := fun q t h0 ht => by
  have := goodC_iff.1 hg q.toNat t ht
  rwa [show (q.toNat : Int) = q by omega] at this
 obtain ⟨nd, hnd⟩ : ∃ nd, nd = needs c i.toNat := ⟨_, rfl⟩
 obtain ⟨l, hl⟩ : ∃ l, l = leanN c s c.length := ⟨_, rfl⟩
 rw [← hnd] at k1 hnl
 rw [← hl] at k2 hll hu
 obtain ⟨y, nds', hns⟩ : ∃ y ys, uB nd = y :: ys := by
  cases h : uB nd with
  | nil =>
   have := uB_len nd
   rw [h, hnl] at this
   have h0 : cnt ([] : Rows) = 0 := rfl
   omega
  | cons y ys => exact ⟨y, ys, rfl⟩
 rcases Decidable.em (0 ≤ s) with hs | hs
 case inr =>
  rw [if_neg (fun h => hs h.2)] at hu
  rw [hns] at k1
  clear hcop hterm hlit k2
  unfold cU at *
  generalize c.map tU = xs at *
  cbv
  (repeat ((first | refine tt ?_ | refine cl ?_); cbv))
  exact hu.symm
 rw [if_pos ⟨rfl, hs⟩] at hu
 have hndx := fun j (h0 : 0 ≤ j) (h1 : j < cnt nd) => uB_nth (s := nd) h0 h1
 have hlx := fun j (h0 : 0 ≤ j) (h1 : j < cnt l) => uB_nth (s := l) h0 h1
 obtain ⟨nds, hnds⟩ : ∃ nds, nds = uB nd := ⟨_, rfl⟩
 obtain ⟨ls, hls⟩ : ∃ ls, ls = uB l := ⟨_, rfl⟩
 rw [← hls] at k2 hlx
 rw [← hnds] at hndx
 rw [hns] at k1
 rw [hns] at hnds
 unfold cU at *
 -- the terms up to the root
 obtain ⟨ct, hct⟩ : ∃ ct, ct = c.take (i.toNat + 1) := ⟨_, rfl⟩
 have hctn : cnt ct = i + 1 := by
  rw [hct]
  unfold cnt at *
  rw [List.length_take]
  omega
 have hcop := fun h k (hk : k (renU (back [] h.length) (.sl 0 (cnt ct) (cnt ct) 7)) (backH [] h [some (.row 7 (ct.map tU))])) (hh : seeB [] [.s 7 (ct.map tU)] h = true) => hcop [.s 7 (ct.map tU)] h k (see [] ⟨ct, fun t ht => by
  have ht := List.mem_of_mem_take (hct ▸ ht)
  refine ⟨hq t ht, fun h1 => ?_⟩
  obtain ⟨p, hp, rfl⟩ := List.mem_iff_getElem.1 ht
  have := goodC_iff.1 hg p _ (List.getElem?_eq_getElem hp)
  unfold termOk at this
  rw [if_pos h1, Bool.and_eq_true] at this
  exact this.2, by omega, rfl, rfl, hk⟩ hh)
 have hctx := fun q (h0 : 0 ≤ q) (h1 : q < cnt ct) => nth_map (c := ct) tU h0 h1
 have hctc : ∀ (q : Int), 0 ≤ q → q < i + 1 → ct[q.toNat]? = c[q.toNat]? := fun q h0 hq => by rw [hct, List.getElem?_take, if_pos (by omega)]
 have htk : ∀ e : Int, e = i + 1 → (c.map tU).take e.toNat = ct.map tU := fun e he => by rw [he, hct, List.map_take, show (i + 1).toNat = i.toNat + 1 by omega]
 have hctm := cnt_map ct tU
 have hrow0 : Row7 ct (cnt ct) (cnt ct) (ct.map tU) := ⟨rfl, by rw [List.take_of_length_le (by rw [← hctm]; unfold cnt; omega)], hctm.symm, Int.le_refl _⟩
 have hder0 : derN c l nd (i.toNat + 1) 0 = (ct, List.replicate (i.toNat + 1) 0, false) := by rw [hct]; rfl
 generalize c.map tU = xs at *
 generalize hcts : ct.map tU = cts at *
 generalize hnn : cnt ct = n0 at *
 clear hct hg
 cbv
 (repeat ((first | refine ff ?_ | refine wr fun _ _ => ?_ | refine cl ?_); cbv))
 rename_i e1 he1 e2 he2
 have h1 : n0 = e1 := by omega
 subst h1
 have h2 : n0 = e2 := by omega
 subst h2
 clear he1 he2
 apply share (uN (List.replicate (i.toNat + 1) 0))
 ·intro key
  repeat' (first | refine And.intro ?_ ?_ | (refine hcop _ _ ?_ rfl; cbv) | (refine cl ?_; cbv) | (refine sd ?_ (by omega); refine sw (htk _ (by omega)) ?_; cbv) | (refine sd ?_ (by omega); refine rp fun dr hdr hdc => ?_; cbv) | (refine wrE (v := n0) ?_ (by omega); cbv) | (refine lnE (v := n0) ?_ (by omega); cbv))
  all_goals
   (first | refine letsM [1, 9, 10, 40, 41, 42] 2 1 0 ?_ | refine letsM [1, 9, 10, 40, 41, 42] 2 0 1 ?_)
   refine key dr ?_
   rw [hdr]
   unfold uN
   rw [List.map_replicate]
   congr 1
   omega
 ·intro dr e0
  rw [← hnds]
  clear hcop
  cbv
  refine loop_inv (fun j a h => ∃ (q : Int) (cc : List Tm) (dd : List Int) (bd : Bool) (n cp : Int) (rw ds : Rows), 0 ≤ q ∧ q ≤ n0 ∧ j = (n0 - q).toNat ∧ derN c l nd (i.toNat + 1) q.toNat = (cc, dd, bd) ∧ Row7 cc n cp rw ∧ ds = uN dd ∧ a = [.lost, ui i, .lost, .lost, .lost, .lost, .lost, .lost, .lost, .s 1 nds, .ptr 3 0, .lost, .lost, .lost, .lost, .lost, .lost, .lost, .lost, .lost, .lost, .lost, .lost, .lost, .lost, .lost, .lost, .lost, .lost, .lost, .lost, .lost, .lost, .lost, .lost, .lost, .lost, .lost, .lost, .lost, .s 7 cts, ui n0, ui q, .lost, .lost, .lost, .lost, .lost, .lost, .lost, .lost, .lost, .lost, .lost, .lost, .lost, .lost, .lost, .lost, .lost, .lost, .lost, .lost, .lost, .lost, .lost, .lost, .lost, .lost, .lost, .lost, .lost, .lost, .lost, .lost, .lost, .lost, .lost, .lost, .lost, .lost, .lost, .lost, .lost, .lost, .lost, .lost, .lost, .lost, .lost, .lost, .lost, .lost, .lost, .lost, .lost, .lost, .lost, .lost, .lost, .lost, .lost, .lost, .lost] ∧ h = mkX ls ds n0 n cp bd rw) ?_ r n0.toNat _ _ (by omega) ⟨0, ct, _, false, n0, n0, cts, dr, by omega, by omega, by omega, hder0, hrow0, e0, rfl, rfl⟩
  clear e0 hder0 hrow0
  rintro j a h K ⟨q, cc, dd, bd, n, cp, rw, ds, q0, q1, hj, hder, hrow, hds, rfl, rfl⟩ hK
  have hdl : cnt dd = n0 := by
   have := der_len c l nd (i.toNat + 1) q.toNat
   rw [hder] at this
   dsimp only at this
   omega
  have hdc : cnt cc ≤ cnt c + 5 * q := by
   have := der_cnt c l nd (i.toNat + 1) q.toNat
   rw [hder] at this
   dsimp only at this
   omega
  have hen := hrow.en
  have hqc : q ≤ cnt c := by omega
  rcases Decidable.em (q < n0) with hlt | hlt
  ·obtain ⟨bN, hbN, hzN⟩ := hndx q q0 (by omega)
   obtain ⟨bL, hbL, hzL⟩ := hlx q q0 (by omega)
   obtain ⟨t, ht, hy⟩ := hctx q q0 (by omega)
   rw [hctc q q0 (by omega)] at ht
   have hno := der_no (c := c) (l := l) (nd := nd) (m := i.toNat + 1) q0
   have hK' := fun cc dd bd n cp rw ds (h1 : derN c l nd (i.toNat + 1) (q + 1).toNat = (cc, dd, bd)) (h2 : Row7 cc n cp rw) (h3 : ds = uN dd) => hK (n0 - (q + 1)).toNat _ _ (by omega) ⟨q + 1, cc, dd, bd, n, cp, rw, ds, by omega, by omega, rfl, h1, h2, h3, rfl, rfl⟩
   have hk1 : bL = true → t.k ≠ 1 := fun e h1 => by
    have := lean_lit (s := s) ht h1 c.length
    rw [← hl, hbL, e] at this
    injection this with this
    cases this
   have htm := term_cases (hok q t q0 ht)
   clear hK hndx hlx hctx hctc hlit hu
   cases bN
   ·have hno := hno (fun h => by rw [hbN] at h; injection h.1 with h; cases h)
    have hK' := hK' cc dd bd n cp rw ds (hno.trans hder) hrow hds
    obtain ⟨kd, ta, tb, m, ts, tl, td⟩ := t
    clear hterm
    cbv
    (repeat ((first | refine tt ?_ | refine wr fun _ _ => ?_ | refine el ?_); cbv))
    rename_i q' hq'
    refine letsM [1, 9, 10, 40, 41, 42] 3 4 5 ?_
    rw [hq']
    exact hK'
   cases bL
   ·have hno := hno (fun h => by rw [hbL] at h; injection h.2 with h; cases h)
    have hK' := hK' cc dd bd n cp rw ds (hno.trans hder) hrow hds
    obtain ⟨kd, ta, tb, m, ts, tl, td⟩ := t
    clear hterm
    cbv
    (repeat ((first | refine tt ?_ | refine wr fun _ _ => ?_ | refine el ?_); cbv))
    rename_i q' hq'
    refine letsM [1, 9, 10, 40, 41, 42] 3 4 5 ?_
    rw [hq']
    exact hK'
   ·have hyes := der_yes q0 hder hbN hbL ht
    obtain ⟨r7, er⟩ : ∃ r : MS, r = termS l dd cc bd t := ⟨_, rfl⟩
    rw [← er] at hyes
    obtain ⟨x0, hx0, hzD⟩ := uN_nth (d := dd) (k := q) q0 (by omega)
    rw [← hds] at hzD
    have hcd : t.k = 2 ∨ (t.k = 7 ∧ inD l dd t.a) ∨ (t.k = 8 ∧ inD l dd t.a ∧ -1000000 ≤ t.n ∧ t.n ≤ 1000000) ∨ ((t.k = 3 ∨ t.k = 4 ∨ t.k = 5 ∨ t.k = 6) ∧ inD l dd t.a ∧ inD l dd t.b) := by
     rcases htm with h | ⟨h, h2⟩ | ⟨h, h2, h3⟩ | ⟨h, h2⟩ | ⟨h, h2, h3⟩
     ·exact absurd h (hk1 rfl)
     ·exact .inl h
     ·exact .inr (.inr (.inr ⟨h, ⟨by omega, by omega, by omega⟩, ⟨by omega, by omega, by omega⟩⟩))
     ·exact .inr (.inl ⟨h, ⟨by omega, by omega, by omega⟩⟩)
     ·exact .inr (.inr (.inl ⟨h, ⟨by omega, by omega, by omega⟩, by omega, by omega⟩))
    have hset : ∀ y ys, y = r7.2.1 → ys = ds.set q.toNat [ui y] → ys = uN (dd.set q.toNat r7.2.1) := fun y ys e1 e2 => by
     rw [e2, hds, e1]
     unfold uN
     rw [List.map_set]
    obtain ⟨kd, ta, tb, m, ts, tl, td⟩ := t
    have hcall := fun h k (hk : ∀ i n' cp' b' ys, i = r7.2.1 → b' = r7.2.2 → Row7 r7.1 n' cp' ys → k (renU (back [3, 4, 5] h.length) (ui i)) (backH [3, 4, 5] h (mkE ls ds n0 n' cp' b' ys))) (hh : [3, 4, 5].map (fun j => renO (ix [3, 4, 5]) (heapAt h j)) = mkH ls ds n0 n cp bd rw) (hb : seeB [3, 4, 5] [.ptr 3 0, .agg (tU ⟨kd, ta, tb, m, (ts, tl, td)⟩)] h = true) => hterm [.ptr 3 0, .agg (tU ⟨kd, ta, tb, m, (ts, tl, td)⟩)] h k (see [3, 4, 5] ⟨cc, l, dd, ls, ds, n0, n, cp, bd, rw, r7, ⟨hls, hds, hdl.symm, by omega, hrow⟩, ⟨_, rfl, hcd, er⟩, hh, hk⟩ hb)
    clear hterm htm hcd er hno hk1
    cbv
    (repeat ((first | refine tt ?_ | refine el ?_); cbv))
    refine ⟨?_, ?_⟩ <;> (
     refine hcall _ _ (fun i2 n2 cp2 b2 ys2 g1 g2 g3 => ?_) rfl rfl
     cbv
     (repeat ((first | refine wr fun _ _ => ?_ | refine sd ?_ | refine el ?_ | intro _ _); cbv))
     rename_i zs e q' hq'
     have e2 := hset _ zs g1 e
     have hK' := hK' r7.1 (dd.set q.toNat r7.2.1) b2 n2 cp2 ys2 zs (by rw [g2]; exact hyes) g3 e2
     clear e hcall
     refine letsM [1, 9, 10, 40, 41, 42] 3 4 7 ?_
     rw [hq']
     exact hK')
  ·have hqi : q.toNat = i.toNat + 1 := by omega
   have hD : derAll c i s = (cc, dd, bd) := by
    unfold derAll
    rw [← hl, ← hnd]
    rw [hqi] at hder
    exact hder
   rw [hD] at hu
   dsimp only at hu
   obtain ⟨bR, hbR, hzR⟩ := hlx i hi0 (by omega)
   obtain ⟨xR, hxR, hzX⟩ := uN_nth (d := dd) hi0 (by omega)
   rw [← hds] at hzX
   rw [bAt_of hbR, dAt_of hxR] at hu
   have hle := hrow.le
   have hec := hrow.ec
   have htk2 := hrow.tk
   clear hK hndx hlx hctx hctc hterm hok hder hD hbR
   cases bR
   ·rw [if_neg (by simp)] at hu
    have hcall := fun h k (hk : ∀ i n' cp' b' ys, i = cnt cc → b' = bd → Row7 (cc ++ [litT 0]) n' cp' ys → k (renU (back [3, 4, 5] h.length) (ui i)) (backH [3, 4, 5] h (mkE ls ds n0 n' cp' b' ys))) (hh : [3, 4, 5].map (fun j => renO (ix [3, 4, 5]) (heapAt h j)) = mkH ls ds n0 n cp bd rw) (hb : seeB [3, 4, 5] [.ptr 3 0, ui 0] h = true) => hlit [.ptr 3 0, ui 0] h k (see [3, 4, 5] ⟨cc, l, dd, ls, ds, n0, n, cp, bd, rw, (cc ++ [litT 0], cnt cc, bd), ⟨hls, hds, hdl.symm, by omega, hrow⟩, ⟨0, by omega, by omega, rfl, rfl⟩, hh, hk⟩ hb)
    clear hlit
    cases bd
    ·cbv
     (repeat ((first | refine ff ?_ | with_reducible refine bq ?_ | refine sd ?_ | refine el ?_); cbv))
     refine hcall _ _ (fun i2 n2 cp2 b2 ys2 g1 g2 g3 => ?_) rfl rfl
     subst g2
     have m2 := g3.en
     rw [cnt_app] at m2
     have m3 := g3.le
     have m4 := g3.ec
     have m5 := g3.tk
     clear hcall g3
     rw [if_neg (fun h => h.elim (fun h => by cases h) (small7 hdc hn hqc).1), ← g1] at hu
     cbv
     (repeat ((first | refine ff ?_ | refine sd ?_ | intro _ _); cbv))
     rename_i zs e
     rw [hu, e, m5]
     exact derU_ok _ i2
    ·rw [if_pos (.inl rfl)] at hu
     cbv
     (repeat ((first | refine ff ?_ | with_reducible refine bq ?_ | refine sd ?_ | refine el ?_); cbv))
     refine hcall _ _ (fun i2 n2 cp2 b2 ys2 g1 g2 g3 => ?_) rfl rfl
     subst g2
     cbv
     (repeat ((first | refine ln fun _ _ _ => ?_ | refine tt ?_ | refine ff ?_ | refine wr fun _ _ => ?_ | refine rp fun _ _ _ => ?_ | with_reducible refine bq ?_ | refine cl ?_ | refine sd ?_ | refine el ?_ | intro _ _); cbv))
     exact hu.symm
   ·rw [if_pos rfl] at hu
    clear hlit
    cases bd
    ·rw [if_neg (fun h => h.elim (fun h => by cases h) (small7 hdc hn hqc).2)] at hu
     cbv
     (repeat ((first | refine ff ?_ | with_reducible refine bq ?_ | refine sd ?_ | refine el ?_ | intro _ _); cbv))
     rename_i zs e
     rw [hu, e, htk2]
     exact derU_ok cc xR
    ·rw [if_pos (.inl rfl)] at hu
     cbv
     (repeat ((first | refine ff ?_ | with_reducible refine bq ?_ | refine sd ?_ | refine el ?_); cbv))
     exact hu.symm
theorem alike {α : Type} {a b : List α} {n : Int} (hn : cnt a = n) (hb : cnt b = n) (h : ∀ (x : Nat), (x : Int) < n → a[x]? = b[x]?) : a = b := by
 unfold cnt at *
 refine List.ext_getElem? fun x => ?_
 by_cases e : (x : Int) < n
 ·exact h x e
 ·rw [List.getElem?_eq_none (by omega), List.getElem?_eq_none (by omega)]
theorem apart {α : Type} {a b : List α} {i : Int} {x y : α} (h1 : a[i.toNat]? = some x) (h2 : b[i.toNat]? = some y) (h : x ≠ y) : ¬ a = b := fun e => by
 rw [e, h2] at h1
 injection h1 with h1
 exact h h1.symm
theorem upto {α : Type} {a b : List α} {i : Int} {x : α} (h0 : 0 ≤ i) (h1 : a[i.toNat]? = some x) (h2 : b[i.toNat]? = some x) (h : ∀ (x : Nat), (x : Int) < i → a[x]? = b[x]?) : ∀ (x : Nat), (x : Int) < i + 1 → a[x]? = b[x]? := fun x hx => by
 by_cases e : (x : Int) = i
 ·have : x = i.toNat := by omega
  rw [this, h1, h2]
 ·exact h x (by omega)
def keepBoolsR (us : List U) (u : U) : Prop := ∃ a b : List Bool, cnt a ≤ 1000000 ∧ us = [.s 1 (uB a), .s 1 (uB b)] ∧ u = ub (decide (a = b))
theorem keepBools_ok : SoundF Tryz.prog 14 keepBoolsR := sound [] orc_nil Tryz.func14 (by kernel_rfl) (by kernel_rfl) fun us u hR => by
 obtain ⟨a, b, hn, rfl, hu⟩ := hR
 obtain ⟨r, hr⟩ : ∃ r, (cnt a).toNat < r := ⟨_, Nat.lt_succ_self _⟩
 refine ⟨r, fun C E hC => ?_⟩
 have hva := fun i (h0 : 0 ≤ i) (h1 : i < cnt a) => nth_map (c := a) (fun x => [ub x]) h0 h1
 have hvb := fun i (h0 : 0 ≤ i) (h1 : i < cnt b) => nth_map (c := b) (fun x => [ub x]) h0 h1
 have hca := cnt_map a fun x => [ub x]
 have hcb := cnt_map b fun x => [ub x]
 have ha0 := cnt0 a
 unfold uB
 generalize a.map (fun x => [ub x]) = xs at *
 generalize b.map (fun x => [ub x]) = ys at *
 cbv
 rcases Decidable.em (cnt a = cnt b) with h1 | h1
 case inr =>
  rw [decide_eq_false (fun e => h1 (by rw [e]))] at hu
  (repeat ((first | refine ln fun _ _ _ => ?_ | refine tt ?_); cbv))
  exact hu.symm
 (repeat ((first | refine ln fun _ _ _ => ?_ | refine ff ?_); cbv))
 refine lets [0, 1, 5] ?_
 cbv
 refine loop_inv (fun j a1 h => ∃ i : Int, 0 ≤ i ∧ i ≤ cnt a ∧ j = (cnt a - i).toNat ∧ (∀ (x : Nat), (x : Int) < i → a[x]? = b[x]?) ∧ a1 = [.s 1 xs, .s 1 ys, .lost, .lost, .lost, ui i, .lost, .lost, .lost, .lost, .lost, .lost, .lost, .lost, .lost, .lost, .lost, .lost, .lost, .lost, .lost, .lost, .lost, .lost, .lost, .lost] ∧ h = []) ?_ r (cnt a).toNat _ _ hr ⟨0, by omega, by omega, by omega, fun x hx => absurd hx (by omega), rfl, rfl⟩
 rintro j a1 h K ⟨i, i0, i1, hj, hI, rfl, rfl⟩ hK
 rcases Decidable.em (i < cnt a) with hlt | hlt
 ·obtain ⟨x, hx, hx2⟩ := hva i i0 hlt
  obtain ⟨y, hy, hy2⟩ := hvb i i0 (by omega)
  rcases Decidable.em (x = y) with e | e
  ·subst e
   have hI := upto i0 hx hy hI
   clear hu
   cases x <;> (
    cbv
    (repeat ((first | refine ln fun _ _ _ => ?_ | refine tt ?_); cbv))
    refine el ?_ (by omega) hx2
    cbv
    (repeat ((first | refine ln fun _ _ _ => ?_ | refine tt ?_ | refine ff ?_ | refine wr fun _ _ => ?_ | refine rp fun _ _ _ => ?_ | with_reducible refine bq ?_ | refine cl ?_ | refine sd ?_ | intro _ _); cbv))
    refine el ?_ (by omega) hy2
    cbv
    (repeat ((first | refine wr fun _ _ => ?_ | with_reducible refine bq ?_); cbv))
    rename_i q' hq'
    refine lets [0, 1, 5] ?_
    exact hK (cnt a - (i + 1)).toNat _ _ (by omega) ⟨i + 1, by omega, by omega, rfl, hI, by rw [hq']; rfl, rfl⟩)
  ·rw [decide_eq_false (apart hx hy e)] at hu
   clear hI hK
   cases x <;> cases y <;> first | exact absurd rfl e | (
    cbv
    (repeat ((first | refine ln fun _ _ _ => ?_ | refine tt ?_); cbv))
    refine el ?_ (by omega) hx2
    cbv
    (repeat ((first | refine ln fun _ _ _ => ?_ | refine tt ?_ | refine ff ?_ | refine wr fun _ _ => ?_ | refine rp fun _ _ _ => ?_ | with_reducible refine bq ?_ | refine cl ?_ | refine sd ?_ | intro _ _); cbv))
    refine el ?_ (by omega) hy2
    cbv
    (repeat ((with_reducible refine bq ?_); cbv))
    exact hu.symm)
 ·rw [decide_eq_true (alike rfl h1.symm fun x hx => hI x (by omega))] at hu
  clear hI hK
  cbv
  (repeat ((first | refine ln fun _ _ _ => ?_ | refine ff ?_); cbv))
  exact hu.symm
theorem keepNR {a b : List Int} (h : cnt a ≤ 1000000) : steelyardkeep_Nat.R [.l a, .l b] (ub (decide (a = b))) := by obtain ⟨k, hk⟩ := (same_tells a b (by unfold cnt at h; omega)).rounds; exact ⟨k, _, _, _, rfl, hk, rfl⟩
def keepIR (us : List U) (u : U) : Prop := ∃ s1 l1 s2 l2, cnt l1 ≤ 1000000 ∧ us = [.agg [ub s1, .l l1], .agg [ub s2, .l l2]] ∧ u = ub (decide ((s1, l1) = (s2, l2)))
theorem keepI_ok : SoundF Tryz.prog 54 keepIR := sound [(55, steelyardkeep_Nat.R)] (orc_cons steelyardkeep_Nat.sound orc_nil) Tryz.func54 (by kernel_rfl) (by kernel_rfl) fun us u hR => ⟨0, fun C E hC => by
 obtain ⟨s1, l1, s2, l2, h, rfl, hu⟩ := hR
 have k := hC 55 steelyardkeep_Nat.R (by simp) _ _ (keepNR (b := l2) h)
 by_cases h1 : s1 = s2
 ·rw [show decide ((s1, l1) = (s2, l2)) = decide (l1 = l2) by rw [decide_eq_decide]; simp [h1]] at hu
  generalize decide (l1 = l2) = t at *
  cases s1 <;> cases s2 <;> first | exact absurd h1 (by decide) | (cbv; (repeat ((first | with_reducible refine bq ?_ | refine cl ?_); cbv)); exact hu.symm)
 ·rw [decide_eq_false (show ¬ (s1, l1) = (s2, l2) by simp [h1])] at hu
  cases s1 <;> cases s2 <;> first | exact absurd rfl h1 | (cbv; (repeat ((with_reducible refine bq ?_); cbv)); exact hu.symm)⟩
def keepR (us : List U) (u : U) : Prop := ∃ a b : R3, cnt a.2.1 ≤ 1000000 ∧ cnt a.2.2 ≤ 1000000 ∧ us = [uR a, uR b] ∧ u = ub (decide (a = b))
theorem keep_ok : SoundF Tryz.prog 24 keepR := sound [(54, keepIR), (55, steelyardkeep_Nat.R)] (orc_cons keepI_ok (orc_cons steelyardkeep_Nat.sound orc_nil)) Tryz.func24 (by kernel_rfl) (by kernel_rfl) fun us u hR => ⟨0, fun C E hC => by
 obtain ⟨⟨s1, l1, b1⟩, ⟨s2, l2, b2⟩, h, h', rfl, hu⟩ := hR
 have k1 := hC 54 keepIR (by simp) _ _ ⟨s1, l1, s2, l2, h, rfl, rfl⟩
 have k2 := hC 55 steelyardkeep_Nat.R (by simp) _ _ (keepNR (b := b2) h')
 have e : decide ((s1, l1, b1) = (s2, l2, b2)) = (decide ((s1, l1) = (s2, l2)) && decide (b1 = b2)) := by rw [Bool.eq_iff_iff]; simp [and_assoc]
 rw [e] at hu
 clear e h h'
 generalize decide ((s1, l1) = (s2, l2)) = t1 at *
 generalize decide (b1 = b2) = t2 at *
 cases t1 <;> cases t2 <;> cbv <;> (repeat ((refine cl ?_); cbv)) <;> exact hu.symm⟩
theorem trim1R {l : List Int} (hl : Limbs l) (hs : cnt l ≤ 1000000) : steelyardref01_Trim.R [.l l] (.l (N (V l))) := by obtain ⟨k, hk⟩ := (trim1_tells hl (by unfold cnt at hs; omega)).rounds; exact ⟨k, _, _, rfl, hk, rfl⟩
theorem of2R {a b : List Int} (ha : Limbs a) (hb : Limbs b) (h1 : cnt a ≤ 1000000) (h2 : cnt b ≤ 1000000) : steelyardref02_Of.R [.l a, .l b] (.l (N (V a * V b))) := by obtain ⟨k, hk⟩ := (mul2_tells ha hb (by unfold cnt at h1; omega) (by unfold cnt at h2; omega)).rounds; exact ⟨k, _, _, _, rfl, hk, rfl⟩
theorem gcd3R {a b : List Int} (ha : Limbs a) (hb : Limbs b) (h1 : cnt a ≤ 1000000) (h2 : cnt b ≤ 1000000) : steelyardref03_Gcd.R [.l a, .l b] (.l (N (Nat.gcd (V a) (V b)))) := by obtain ⟨k, hk⟩ := (gcd3_tells ha hb (by unfold cnt at h1; omega) (by unfold cnt at h2; omega)).rounds; exact ⟨k, _, _, _, rfl, hk, rfl⟩
theorem rem3R {a b : List Int} (ha : Limbs a) (hb : Limbs b) (h1 : cnt a ≤ 1000000) (h2 : cnt b ≤ 1000000) (hz : V b ≠ 0) : steelyardref03_Rem.R [.l a, .l b] (.agg [.l (N (V a / V b)), .l (N (V a % V b)), ub true]) := by
 obtain ⟨k, hk⟩ := (rem3_tells ha hb (by unfold cnt at h1; omega) (by unfold cnt at h2; omega)).rounds
 rw [if_neg hz] at hk
 exact ⟨k, _, _, _, _, _, rfl, hk, rfl⟩
theorem of1R {r : Int} (h0 : 0 ≤ r) (h1 : r < 18446744073709551616) : steelyardref01_Of.R [.v (.int .u64 r)] (.l (N r.toNat)) := by obtain ⟨k, hk⟩ := (of1_tells h0 h1).rounds; exact ⟨k, _, _, rfl, hk, rfl⟩
def make6R (us : List U) (u : U) : Prop := ∃ s l, Limbs l ∧ cnt l ≤ 1000000 ∧ us = [ub s, .l l] ∧ u = uI (Z s l)
theorem make6_ok : SoundF Tryz.prog 96 make6R := sound [(63, steelyardref01_Trim.R)] (orc_cons steelyardref01_Trim.sound orc_nil) Tryz.func96 (by kernel_rfl) (by kernel_rfl) fun us u hR => ⟨0, fun C E hC => by
 obtain ⟨s, l, hl, hs, rfl, hu⟩ := hR
 rw [uI_Z] at hu
 obtain ⟨l', k1, el⟩ := tN (hC 63 steelyardref01_Trim.R (by simp) _ _ (trim1R hl hs))
 rw [← el] at hu
 clear el
 have g := cnt0 l'
 by_cases h0 : 0 < cnt l' <;> cases s <;> cbv <;> (repeat ((first | refine ln fun _ _ _ => ?_ | refine tt ?_ | refine ff ?_ | refine cl ?_); cbv)) <;> (rw [hu]; simp [h0])⟩
def trim6R (us : List U) (u : U) : Prop := ∃ s l, Limbs l ∧ cnt l ≤ 1000000 ∧ us = [.agg [ub s, .l l]] ∧ u = uI (Z s l)
theorem trim6_ok : SoundF Tryz.prog 97 trim6R := sound [(96, make6R)] (orc_cons make6_ok orc_nil) Tryz.func97 (by kernel_rfl) (by kernel_rfl) fun us u hR => ⟨0, fun C E hC => by
 obtain ⟨s, l, hl, hs, rfl, hu⟩ := hR
 obtain ⟨s1, l1, k1, e1, e2⟩ := tI (hC 96 make6R (by simp) _ _ ⟨s, l, hl, hs, rfl, rfl⟩)
 cbv
 (repeat ((refine cl ?_); cbv))
 rw [hu, e1, e2]; rfl⟩
def mul6R (us : List U) (u : U) : Prop := ∃ s1 l1 s2 l2, Limbs l1 ∧ Limbs l2 ∧ cnt l1 ≤ 100000 ∧ cnt l2 ≤ 100000 ∧ us = [.agg [ub s1, .l l1], .agg [ub s2, .l l2]] ∧ u = uI (Z s1 l1 * Z s2 l2)
theorem mul6_ok : SoundF Tryz.prog 59 mul6R := sound [(96, make6R), (97, trim6R), (61, steelyardref02_Of.R)] (orc_cons make6_ok (orc_cons trim6_ok (orc_cons steelyardref02_Of.sound orc_nil))) Tryz.func59 (by kernel_rfl) (by kernel_rfl) fun us u hR => ⟨0, fun C E hC => by
 obtain ⟨s1, l1, s2, l2, h1, h2, c1, c2, rfl, hu⟩ := hR
 obtain ⟨t1, m1, k1, e1, f1⟩ := tI (hC 97 trim6R (by simp) _ _ ⟨s1, l1, h1, by omega, rfl, rfl⟩)
 obtain ⟨t2, m2, k2, e2, f2⟩ := tI (hC 97 trim6R (by simp) _ _ ⟨s2, l2, h2, by omega, rfl, rfl⟩)
 have c3 := cnt_mul h1 h2
 have sm := sign_mul (Z s1 l1) (Z s2 l2)
 rw [← e1, ← e2, Z_abs, Z_abs] at sm
 have k3 := hC 61 steelyardref02_Of.R (by simp) _ _ (of2R h1 h2 (by omega) (by omega))
 have k4 := hC 96 make6R (by simp) _ _ ⟨t1 != t2, N (V l1 * V l2), N_limbs _, by omega, rfl, rfl⟩
 rw [sm, ← hu] at k4
 obtain ⟨s4, l4, hu'⟩ : ∃ s l, u = .agg [ub s, .l l] := ⟨_, _, hu⟩
 rw [hu'] at k4
 clear hu sm e1 e2 f1 f2 c3
 generalize N (V l1 * V l2) = l3 at *
 cases t1 <;> cases t2 <;> cbv <;> (repeat ((first | with_reducible refine bq ?_ | refine cl ?_); cbv)) <;> exact hu'.symm⟩
def of6R (us : List U) (u : U) : Prop := ∃ v : Int, -9223372036854775808 ≤ v ∧ v ≤ 9223372036854775807 ∧ us = [ui v] ∧ u = uI v
theorem of6_ok : SoundF Tryz.prog 77 of6R := sound [(96, make6R), (110, steelyardref01_Of.R)] (orc_cons make6_ok (orc_cons steelyardref01_Of.sound orc_nil)) Tryz.func77 (by kernel_rfl) (by kernel_rfl) fun us u hR => ⟨0, fun C E hC => by
 obtain ⟨v, h0, h1, rfl, hu⟩ := hR
 have hl : len v.natAbs ≤ 2 := len_le.2 (by omega)
 have k1 : ∀ r : Int, 0 ≤ r → (r = v ∨ r = -v) → C 110 [.v (.int .u64 r)] (.l (N v.natAbs)) := fun r g0 g1 => by
  have := hC 110 steelyardref01_Of.R (by simp) _ _ (of1R (r := r) (by omega) (by omega))
  rwa [show r.toNat = v.natAbs by omega] at this
 have k2 := hC 96 make6R (by simp) _ _ ⟨decide (v < 0), N v.natAbs, N_limbs _, by rw [cnt_N]; omega, rfl, rfl⟩
 rw [show Z (decide (v < 0)) (N v.natAbs) = v from Z_I v, ← hu] at k2
 obtain ⟨s4, l4, hu'⟩ : ∃ s l, u = .agg [ub s, .l l] := ⟨_, _, hu⟩
 rw [hu'] at k2
 generalize N v.natAbs = l at *
 by_cases h : v < 0
 ·rw [decide_eq_true h] at k2
  cbv
  refine tt ?_
  cbv
  refine wr fun r1 q1 => ?_
  cbv
  refine wr fun r2 q2 => ?_
  cbv
  refine wu fun r3 q3 => ?_
  cbv
  refine wu fun r4 q4 => ?_
  cbv
  refine cl ?_ (k1 r4 (by omega) (by omega))
  cbv
  (repeat ((refine cl ?_); cbv))
  exact hu'.symm
 ·rw [decide_eq_false h] at k2
  cbv
  refine ff ?_
  cbv
  refine wu fun r1 q1 => ?_
  cbv
  refine cl ?_ (k1 r1 (by omega) (by omega))
  cbv
  (repeat ((refine cl ?_); cbv))
  exact hu'.symm⟩
theorem limb1 {g : Nat} (h : len g = 1) : N g = [(g : Int)] := by
  obtain ⟨y, hy⟩ := List.length_eq_one_iff.1 (show (N g).length = 1 by rw [N_length]; exact h)
  have e : rd (N g) 0 = (g : Int) := by
    have h2 := rd_V (N_limbs g) 0
    have h3 := rd_nonneg (N_limbs g) ((0 : Nat) : Int)
    have h4 := len_le.1 (Nat.le_of_eq h)
    rw [V_N, Nat.pow_zero, Nat.div_one] at h2
    rw [Nat.pow_one] at h4
    rw [Nat.mod_eq_of_lt h4] at h2
    have : rd (N g) 0 = rd (N g) ((0 : Nat) : Int) := rfl
    omega
  rw [hy] at e ⊢
  rw [← e]; rfl
theorem good7_ok : SoundF Tryz.prog 46 goodR := sound [(80, steelyardref07_trimmed.R), (81, steelyardref03_Gcd.R)] (orc_cons steelyardref07_trimmed.sound (orc_cons steelyardref03_Gcd.sound orc_nil)) Tryz.func46 (by kernel_rfl) (by kernel_rfl) fun us u hR => ⟨0, fun C E hC => by
  obtain ⟨⟨s, l, b⟩, ⟨hl, hb, hsl, hsb⟩, rfl, hu⟩ := hR
  have hl : Limbs l := hl
  have hb : Limbs b := hb
  have k1 := hC 80 steelyardref07_trimmed.R (by simp) [.l l] _ ⟨_, _, rfl, trimmed7_tells hl hsl, rfl⟩
  have k2 := hC 80 steelyardref07_trimmed.R (by simp) [.l b] _ ⟨_, _, rfl, trimmed7_tells hb hsb, rfl⟩
  clear hsl hsb
  have g1 := cnt0 l
  have g2 := cnt0 b
  unfold goodB at hu
  dsimp only at hu
  have e1 : (decide (b.length ≠ 0)) = decide (cnt b ≠ 0) := by rw [decide_eq_decide]; unfold cnt; omega
  have e2 : (decide (b.length ≤ 64)) = decide (cnt b ≤ 64) := by rw [decide_eq_decide]; unfold cnt; omega
  have e3 : (decide (l.length ≤ 64)) = decide (cnt l ≤ 64) := by rw [decide_eq_decide]; unfold cnt; omega
  have e4 : (decide (l.length = 0)) = decide (cnt l = 0) := by rw [decide_eq_decide]; unfold cnt; omega
  rw [e1, e2, e3, e4] at hu
  clear e1 e2 e3 e4
  generalize decide (N (V l) = l) = t1 at *
  generalize decide (N (V b) = b) = t2 at *
  cases t1
  · cbv; (repeat ((first | with_reducible refine bq ?_ | refine cl ?_); cbv)); rw [hu]; rfl
  cases t2
  · cbv; (repeat ((first | with_reducible refine bq ?_ | refine cl ?_); cbv)); rw [hu]; rfl
  by_cases h3 : cnt b = 0
  · cbv; (repeat ((first | refine ln fun _ _ _ => ?_ | refine tt ?_ | with_reducible refine bq ?_ | refine cl ?_); cbv)); rw [hu]; simp [h3]
  by_cases h4 : cnt b ≤ 64
  case neg => cases s <;> by_cases h6 : cnt l = 0 <;> by_cases h5 : cnt l ≤ 64 <;> cbv <;> (repeat ((first | refine ln fun _ _ _ => ?_ | refine tt ?_ | refine ff ?_ | with_reducible refine bq ?_ | refine cl ?_); cbv)) <;> (rw [hu]; simp [h4])
  by_cases h5 : cnt l ≤ 64
  case neg => cases s <;> cbv <;> (repeat ((first | refine ln fun _ _ _ => ?_ | refine tt ?_ | refine ff ?_ | with_reducible refine bq ?_ | refine cl ?_); cbv)) <;> (rw [hu]; simp [h5])
  have k3 := hC 81 steelyardref03_Gcd.R (by simp) _ _ (gcd3R hl hb (by omega) (by omega))
  obtain ⟨g, eg⟩ : ∃ g, g = Nat.gcd (V l) (V b) := ⟨_, rfl⟩
  rw [show decide (Nat.gcd (V l) (V b) = 1) = decide (g = 1) by rw [eg]] at hu
  rw [← eg] at k3
  clear eg
  by_cases h7 : len g = 1
  · have hc : cnt (N g) = 1 := by rw [cnt_N]; omega
    have hi : (N g)[(0 : Int).toNat]? = some (g : Int) := by rw [limb1 h7]; rfl
    generalize N g = l3 at *
    rw [show decide (g = 1) = decide ((g : Int) = 1) by rw [decide_eq_decide]; omega] at hu
    generalize (g : Int) = y at *
    clear h7
    cases s
    · by_cases hd : y = 1 <;> cbv <;> (repeat ((first | refine ln fun _ _ _ => ?_ | refine tt ?_ | refine ff ?_ | with_reducible refine bq ?_ | refine cl ?_); cbv)) <;> (refine ei ?_ (by omega) hi) <;> cbv <;> (repeat ((first | refine tt ?_ | refine ff ?_); cbv)) <;> (rw [hu]; simp [h3, h4, h5, hd])
    · by_cases h6 : cnt l = 0
      · cbv; (repeat ((first | refine ln fun _ _ _ => ?_ | refine tt ?_ | refine ff ?_ | with_reducible refine bq ?_ | refine cl ?_); cbv)); rw [hu]; simp [h6]
      · by_cases hd : y = 1 <;> cbv <;> (repeat ((first | refine ln fun _ _ _ => ?_ | refine tt ?_ | refine ff ?_ | with_reducible refine bq ?_ | refine cl ?_); cbv)) <;> (refine ei ?_ (by omega) hi) <;> cbv <;> (repeat ((first | refine tt ?_ | refine ff ?_); cbv)) <;> (rw [hu]; simp [h3, h4, h5, h6, hd])
  · have h8 : ¬ cnt (N g) = 1 := by rw [cnt_N]; omega
    have h9 : ¬ g = 1 := fun h => h7 (by rw [h]; decide +kernel)
    rw [decide_eq_false h9] at hu
    generalize N g = l3 at *
    clear h7 h9
    cases s
    · cbv; (repeat ((first | refine ln fun _ _ _ => ?_ | refine ff ?_ | with_reducible refine bq ?_ | refine cl ?_); cbv)); rw [hu]; simp
    · by_cases h6 : cnt l = 0
      · cbv; (repeat ((first | refine ln fun _ _ _ => ?_ | refine tt ?_ | refine ff ?_ | with_reducible refine bq ?_ | refine cl ?_); cbv)); rw [hu]; simp [h6]
      · cbv; (repeat ((first | refine ln fun _ _ _ => ?_ | refine ff ?_ | with_reducible refine bq ?_ | refine cl ?_); cbv)); rw [hu]; simp⟩
def u76 (a : R4) : U := .agg [ub a.1, .l a.2.1, .l a.2.2.1, ui a.2.2.2]
theorem u76_parts (a : R4) : ∃ s l b e, u76 a = .agg [ub s, .l l, .l b, ui e] ∧ (s, l, b, e) = a := ⟨_, _, _, _, rfl, rfl⟩
def wideR (us : List U) (u : U) : Prop := ∃ s l b, Limbs l ∧ Limbs b ∧ cnt l ≤ 500000 ∧ cnt b ≤ 500000 ∧ V b ≠ 0 ∧ us = [.agg [ub s, .l l], .l b] ∧ u = uR (ratOf (mkRat (Z s l) (V b)))
theorem wide_ok : SoundF Tryz.prog 57 wideR := sound [(97, trim6R), (96, make6R), (81, steelyardref03_Gcd.R), (98, steelyardref03_Rem.R)] (orc_cons trim6_ok (orc_cons make6_ok (orc_cons steelyardref03_Gcd.sound (orc_cons steelyardref03_Rem.sound orc_nil)))) Tryz.func57 (by kernel_rfl) (by kernel_rfl) fun us u hR => ⟨0, fun C E hC => by
  obtain ⟨s, l, b, hl, hb, c1, c2, hz, rfl, hu⟩ := hR
  obtain ⟨s1, l1, k1, e1, e2⟩ := tI (hC 97 trim6R (by simp) _ _ ⟨s, l, hl, by omega, rfl, rfl⟩)
  have b1 := lenV hl
  have b2 := lenV hb
  rw [← Z_abs s l] at b1
  generalize Z s l = z at *
  obtain ⟨p1, p2, p3⟩ := mk_parts z (V b) hz
  have hg : 0 < Nat.gcd z.natAbs (V b) := Nat.gcd_pos_of_pos_right _ (by omega)
  have hgb : len (Nat.gcd z.natAbs (V b)) ≤ len (V b) := len_mono (Nat.gcd_le_right _ (by omega))
  have k3 := hC 81 steelyardref03_Gcd.R (by simp) _ _ (gcd3R (a := l1) (e2 ▸ N_limbs _) hb (by rw [e2, cnt_N]; omega) (by omega))
  have v1 : V l1 = z.natAbs := by rw [e2, V_N]
  have q1 : cnt l1 = len z.natAbs := by rw [e2, cnt_N]
  rw [v1] at k3
  have k4 := hC 98 steelyardref03_Rem.R (by simp) _ _ (rem3R (a := l1) (e2 ▸ N_limbs _) (N_limbs (Nat.gcd z.natAbs (V b))) (by omega) (by rw [cnt_N]; omega) (by rw [V_N]; omega))
  have k5 := hC 98 steelyardref03_Rem.R (by simp) _ _ (rem3R hb (N_limbs (Nat.gcd z.natAbs (V b))) (by omega) (by rw [cnt_N]; omega) (by rw [V_N]; omega))
  rw [v1, V_N, ← p1] at k4
  rw [V_N, ← p2] at k5
  have hx : len (mkRat z (V b)).num.natAbs ≤ len z.natAbs := by rw [p1]; exact len_mono (Nat.div_le_self _ _)
  have k6 := hC 96 make6R (by simp) _ _ ⟨s1, N (mkRat z (V b)).num.natAbs, N_limbs _, by rw [cnt_N]; omega, rfl, rfl⟩
  rw [show Z s1 (N (mkRat z (V b)).num.natAbs) = (mkRat z (V b)).num by rw [e1, ← p3]; exact Z_I _] at k6
  obtain ⟨s7, l7, k6, i7, i8⟩ := tI k6
  have hu' : u = .agg [ub s7, .l l7, .l (N (mkRat z (V b)).den)] := by rw [hu, i7, i8]; rfl
  clear hu i7 i8 e1 e2 p1 p2 p3 hg hgb v1 b1 b2 q1 hb hl hz hx c1 c2
  generalize N (mkRat z (V b)).num.natAbs = l3 at *
  generalize N (mkRat z (V b)).den = l4 at *
  generalize N (Nat.gcd z.natAbs (V b)) = l6 at *
  generalize N (z.natAbs % Nat.gcd z.natAbs (V b)) = l8 at *
  generalize N (V b % Nat.gcd z.natAbs (V b)) = l9 at *
  cbv; (repeat ((refine cl ?_); cbv)); exact hu'.symm⟩
def limitR (us : List U) (u : U) : Prop := ∃ q, us = [uR (ratOf q)] ∧ u = u76 (lim q)
theorem limit_ok : SoundF Tryz.prog 95 limitR := sound [] orc_nil Tryz.func95 (by kernel_rfl) (by kernel_rfl) fun us u hR => ⟨0, fun C E hC => by
  obtain ⟨q, rfl, hu⟩ := hR
  have hu2 : u = if cnt (N q.num.natAbs) ≤ 64 ∧ cnt (N q.den) ≤ 64 then .agg [ub (decide (q.num < 0)), .l (N q.num.natAbs), .l (N q.den), ui 0] else .agg [ub false, .l [], .l [], ui 2] := by
    rw [hu, cnt_N, cnt_N]
    unfold lim fits
    by_cases h : len q.num.natAbs ≤ 64 ∧ len q.den ≤ 64
    · rw [if_pos (by simpa using h), if_pos (by omega)]; rfl
    · rw [if_neg (by simpa using h), if_neg (by omega)]; rfl
  clear hu
  unfold uR ratOf
  dsimp only
  generalize decide (q.num < 0) = s at *
  generalize N q.num.natAbs = l at *
  generalize N q.den = b at *
  by_cases h1 : cnt l ≤ 64
  · by_cases h2 : cnt b ≤ 64
    · rw [if_pos ⟨h1, h2⟩] at hu2
      cbv; (repeat ((first | refine ln fun _ _ _ => ?_ | refine ff ?_); cbv)); exact hu2.symm
    · rw [if_neg (by omega)] at hu2
      cbv; (repeat ((first | refine ln fun _ _ _ => ?_ | refine tt ?_ | refine ff ?_); cbv)); exact hu2.symm
  · rw [if_neg (by omega)] at hu2
    cbv; (repeat ((first | refine ln fun _ _ _ => ?_ | refine tt ?_); cbv)); exact hu2.symm⟩
def timesR (us : List U) (u : U) : Prop := ∃ p s l b, fits p = true ∧ Limbs l ∧ Limbs b ∧ cnt l ≤ 64 ∧ cnt b ≤ 64 ∧ V b ≠ 0 ∧ us = [uR (ratOf p), .agg [ub s, .l l, .l b]] ∧ u = uR (ratOf (mkRat (p.num * Z s l) (p.den * V b)))
theorem times_ok : SoundF Tryz.prog 30 timesR := sound [(59, mul6R), (61, steelyardref02_Of.R), (57, wideR)] (orc_cons mul6_ok (orc_cons steelyardref02_Of.sound (orc_cons wide_ok orc_nil))) Tryz.func30 (by kernel_rfl) (by kernel_rfl) fun us u hR => ⟨0, fun C E hC => by
  obtain ⟨p, s, l, b, hp, hl, hb, c1, c2, hz, rfl, hu⟩ := hR
  obtain ⟨s1, l1, b1, e, f1, f2, f3, f4, f5, f6, f7, f8⟩ := rat_parts hp
  rw [e]
  have k1 := hC 59 mul6R (by simp) _ _ ⟨s1, l1, s, l, f1, hl, by omega, by omega, rfl, rfl⟩
  rw [f5] at k1
  have k2 := hC 61 steelyardref02_Of.R (by simp) _ _ (of2R f2 hb (by omega) (by omega))
  rw [f6] at k2
  have m1 := len_mulZ p.num (Z s l)
  have m2 := len_mul p.den (V b)
  obtain ⟨n1, n2⟩ := fits_len hp
  have n3 := lenV hl
  have n4 := lenV hb
  rw [Z_abs] at m1
  obtain ⟨s2, l2, k1, i1, i2⟩ := tI k1
  obtain ⟨l3, k2, i3⟩ := tN k2
  obtain ⟨s4, l4, b4, k3, i4⟩ := tR (hC 57 wideR (by simp) _ _ ⟨s2, l2, l3, i2 ▸ N_limbs _, i3 ▸ N_limbs _, by rw [i2, cnt_N]; omega, by rw [i3, cnt_N]; omega, by rw [i3, V_N]; exact Nat.mul_ne_zero p.den_nz hz, rfl, rfl⟩)
  rw [show Z s2 l2 = p.num * Z s l by rw [i1, i2]; exact Z_I _, show V l3 = p.den * V b by rw [i3, V_N]] at i4
  rw [← i4] at hu
  clear e i1 i2 i3 i4 m1 m2 n1 n2 n3 n4 f1 f2 f3 f4 f5 f6 f7 f8 hp hz
  cbv; (repeat ((refine cl ?_); cbv)); exact hu.symm⟩
def div7R (us : List U) (u : U) : Prop := ∃ a b : R3, LB a ∧ LB b ∧ us = [uR a, uR b] ∧ u = u76 (divS a b)
theorem div7_ok : SoundF Tryz.prog 56 div7R := sound [(46, goodR), (96, make6R), (30, timesR), (95, limitR)] (orc_cons good7_ok (orc_cons make6_ok (orc_cons times_ok (orc_cons limit_ok orc_nil)))) Tryz.func56 (by kernel_rfl) (by kernel_rfl) fun us u hR => ⟨0, fun C E hC => by
  obtain ⟨⟨s1, l1, b1⟩, ⟨s2, l2, b2⟩, ha, hb, rfl, hu⟩ := hR
  have k1 := hC 46 goodR (by simp) _ _ ⟨_, ha, rfl, rfl⟩
  have k2 := hC 46 goodR (by simp) _ _ ⟨_, hb, rfl, rfl⟩
  clear ha hb
  unfold divS at hu
  by_cases h1 : goodB (s1, l1, b1) = true
  case neg =>
    rw [Bool.eq_false_iff.2 h1] at k1 hu
    rw [Bool.false_and, if_neg (by simp), show u76 (bad 1) = .agg [ub false, .l [], .l [], ui 1] from rfl] at hu
    cbv; (repeat ((first | with_reducible refine bq ?_ | refine cl ?_); cbv)); exact hu.symm
  by_cases h2 : goodB (s2, l2, b2) = true
  case neg =>
    rw [h1] at k1
    rw [Bool.eq_false_iff.2 h2] at k2 hu
    rw [Bool.and_false, if_neg (by simp), show u76 (bad 1) = .agg [ub false, .l [], .l [], ui 1] from rfl] at hu
    cbv; (repeat ((first | with_reducible refine bq ?_ | refine cl ?_); cbv)); exact hu.symm
  rw [h1] at k1 hu
  rw [h2] at k2 hu
  rw [Bool.true_and, if_pos rfl] at hu
  obtain ⟨p, hp, e1, f1, f2, f3, f4, f5, f6, f7, f8⟩ := good_parts h1
  obtain ⟨q, hq, e2, g1, g2, g3, g4, g5, g6, g7, g8⟩ := good_parts h2
  rw [e1, e2] at hu
  obtain ⟨p', hp', ep⟩ := good_iff.1 h1
  have : p' = p := by rw [← qOf_ratOf p', ← ep, e1]
  subst this
  have el : cnt l2 = len q.num.natAbs := by
    obtain ⟨q', hq', eq⟩ := good_iff.1 h2
    have : q' = q := by rw [← qOf_ratOf q', ← eq, e2]
    subst this
    injection eq with _ eq
    injection eq with eq _
    rw [eq, cnt_N]
  have h0 : len q.num.natAbs = 0 ↔ q.num.natAbs = 0 := len_eq_zero
  by_cases hz : q = 0
  · have hn : q.num = 0 := Rat.num_eq_zero.2 hz
    rw [if_pos hz, show u76 (bad 3) = .agg [ub false, .l [], .l [], ui 3] from rfl] at hu
    have hl0 : cnt l2 = 0 := by omega
    clear el h0 hn e1 e2 f1 f2 f3 f4 f5 f6 f7 f8 g1 g2 g3 g4 g5 g6 g7 g8 hz h1 h2
    cbv; (repeat ((first | refine ln fun _ _ _ => ?_ | refine tt ?_ | with_reducible refine bq ?_ | refine cl ?_); cbv)); exact hu.symm
  · have hn : q.num ≠ 0 := fun h => hz (Rat.num_eq_zero.1 h)
    have hl0 : ¬ cnt l2 = 0 := by omega
    rw [if_neg hz] at hu
    have k3 := hC 96 make6R (by simp) _ _ ⟨s2, b2, g2, by omega, rfl, rfl⟩
    have e3 : Z s2 b2 = if q.num < 0 then -(q.den : Int) else (q.den : Int) := by
      unfold Z
      rw [g6, g8]
      by_cases h : q.num < 0 <;> simp [h]
    rw [e3] at k3
    obtain ⟨s3, l3, k3, i1, i2⟩ := tI k3
    have ea : (if q.num < 0 then -(q.den : Int) else (q.den : Int)).natAbs = q.den := by split <;> omega
    rw [ea] at i2
    have hq2 := fits_len hq
    have k4 := hC 30 timesR (by simp) _ _ ⟨p', s3, l3, l2, hp', i2 ▸ N_limbs _, g1, by rw [i2, cnt_N]; omega, by omega, by omega, rfl, rfl⟩
    rw [← ep, show Z s3 l3 = (if q.num < 0 then -(q.den : Int) else (q.den : Int)) by rw [i1, i2]; have := Z_I (if q.num < 0 then -(q.den : Int) else (q.den : Int)); rw [I_1, I_2, ea] at this; exact this, g7, show mkRat (p'.num * (if q.num < 0 then -(q.den : Int) else (q.den : Int))) (p'.den * q.num.natAbs) = p' / q by
      rw [← div_mk p' q hn]
      congr 1
      split
      · rw [Int.mul_neg]
      · rfl] at k4
    have k5 := hC 95 limitR (by simp) _ _ ⟨p' / q, rfl, rfl⟩
    obtain ⟨s6, l6, b6, e6, hu', i6⟩ := u76_parts (lim (p' / q))
    rw [hu'] at k5 hu
    obtain ⟨s5, l5, b5, k4, i5⟩ := tR k4
    rw [← i5] at k5
    clear hu' i5 i6 el h0 hn e1 e2 f1 f2 f3 f4 f5 f6 f7 f8 g1 g2 g3 g4 g5 g6 g7 g8 hz h1 h2 e3 i1 i2 ea hq2 ep hp hp' hq
    cbv; (repeat ((first | refine ln fun _ _ _ => ?_ | refine ff ?_ | with_reducible refine bq ?_ | refine cl ?_); cbv)); exact hu.symm⟩
def whole7R (us : List U) (u : U) : Prop := ∃ v : Int, -9223372036854775808 ≤ v ∧ v ≤ 9223372036854775807 ∧ us = [ui v] ∧ u = uR (ratOf (v : Rat))
theorem whole7_ok : SoundF Tryz.prog 40 whole7R := sound [(77, of6R)] (orc_cons of6_ok orc_nil) Tryz.func40 (by kernel_rfl) (by kernel_rfl) fun us u hR => ⟨0, fun C E hC => by
  obtain ⟨v, h0, h1, rfl, hu⟩ := hR
  obtain ⟨s, l, k1, e1, e2⟩ := tI (hC 77 of6R (by simp) _ _ ⟨v, h0, h1, rfl, rfl⟩)
  rw [ratOf_int, N_one] at hu
  cbv; (repeat ((refine cl ?_); cbv)); rw [hu, e1, e2]; rfl⟩
def byR (us : List U) (u : U) : Prop := ∃ a b : Int, -9223372036854775808 ≤ a ∧ a ≤ 9223372036854775807 ∧ 0 < b ∧ b ≤ 9223372036854775807 ∧ fits ((a : Rat) / (b : Rat)) = true ∧ us = [ui a, ui b] ∧ u = uR (ratOf ((a : Rat) / (b : Rat)))
theorem by_ok : SoundF Tryz.prog 26 byR := sound [(40, whole7R), (56, div7R)] (orc_cons whole7_ok (orc_cons div7_ok orc_nil)) Tryz.func26 (by kernel_rfl) (by kernel_rfl) fun us u hR => ⟨0, fun C E hC => by
  obtain ⟨a, b, h0, h1, h2, h3, hf, rfl, hu⟩ := hR
  have k1 := hC 40 whole7R (by simp) _ _ ⟨a, h0, h1, rfl, rfl⟩
  have k2 := hC 40 whole7R (by simp) _ _ ⟨b, by omega, h3, rfl, rfl⟩
  have fa : fits (a : Rat) = true := fits_int a (by omega)
  have fb : fits (b : Rat) = true := fits_int b (by omega)
  have hb : (b : Rat) ≠ 0 := by have : b ≠ 0 := by omega
                                exact_mod_cast this
  have k3 := hC 56 div7R (by simp) _ _ ⟨ratOf (a : Rat), ratOf (b : Rat), (LR_ratOf fa).wide, (LR_ratOf fb).wide, rfl, rfl⟩
  rw [divS_fits fa fb hb hf] at k3
  obtain ⟨s1, l1, b1, k1, i1⟩ := tR k1
  obtain ⟨s2, l2, b2, k2, i2⟩ := tR k2
  rw [← i1, ← i2] at k3
  rcases i3 : ratOf ((a : Rat) / (b : Rat)) with ⟨s3, l3, b3⟩
  rw [i3] at k3 hu
  clear i1 i2 i3 hf fa fb hb
  cbv; (repeat ((refine cl ?_); cbv)); exact hu.symm⟩
def quotC : List Tm := [⟨2, 0, 0, 0, none3⟩, ⟨2, 0, 0, 1, none3⟩, ⟨6, 0, 1, 0, none3⟩, ⟨1, 0, 0, 0, ratOf 1⟩, ⟨4, 2, 3, 0, none3⟩]
def quotR (us : List U) (u : U) : Prop := us = [] ∧ u = cU quotC
theorem by_q {C : Orc} (h : Told C 26 byR) (a b : Int) (q : Rat) (h0 : -9223372036854775808 ≤ a ∧ a ≤ 9223372036854775807 ∧ 0 < b ∧ b ≤ 9223372036854775807) (hq : (a : Rat) / (b : Rat) = q) (hf : fits q = true) : ∃ s l d, C 26 [ui a, ui b] (.agg [ub s, .l l, .l d]) ∧ (s, l, d) = ratOf q := by
 subst hq
 exact tR (h _ _ ⟨a, b, h0.1, h0.2.1, h0.2.2.1, h0.2.2.2, hf, rfl, rfl⟩)
theorem quot_ok : SoundF Tryz.prog 33 quotR := sound [(26, byR)] (orc_cons by_ok orc_nil) Tryz.func33 (by kernel_rfl) (by kernel_rfl) fun us u hR => ⟨0, fun C E hC => by
 obtain ⟨rfl, hu⟩ := hR
 obtain ⟨s, l, d, k1, e⟩ := by_q (hC 26 byR (by simp)) 1 1 1 (by decide) (by decide +kernel) (by decide +kernel)
 have hu : u = .s 7 [[ui 2, ui 0, ui 0, ui 0, ub false, .l [], .l []], [ui 2, ui 0, ui 0, ui 1, ub false, .l [], .l []], [ui 6, ui 0, ui 1, ui 0, ub false, .l [], .l []], [ui 1, ui 0, ui 0, ui 0, ub s, .l l, .l d], [ui 4, ui 2, ui 3, ui 0, ub false, .l [], .l []]] := by
  rw [hu]
  unfold cU quotC
  rw [← e]
  rfl
 clear e
 cbv; (repeat ((refine cl ?_); cbv)); exact hu.symm⟩
def ofR' (us : List U) (u : U) : Prop := ∃ c i xs x, (∀ t ∈ c, LB t.q) ∧ cnt c ≤ 1000000 ∧ (∀ a ∈ xs, LB a) ∧ cnt xs ≤ 1000000 ∧ nilEq x (qsU xs) ∧ us = [cU c, ui i, x] ∧ u = uR4 (ofS c i xs)
theorem of_ok' : SoundF Tryz.prog 22 ofR' := relax of_ok fun us u ⟨c, i, xs, x, h1, h2, h3, h4, h5, h6, h7⟩ => ⟨_, u, ⟨c, i, xs, h1, h2, h3, h4, rfl, h7⟩, by rw [h6]; exact ⟨.inl rfl, .inl rfl, h5, trivial⟩, .inl rfl⟩
theorem LB_q {q : Rat} (h : fits q = true) : LB (ratOf q) := (LR_ratOf h).wide
theorem quot_LB : ∀ t ∈ quotC, LB t.q := fun t h => by
 unfold quotC at h
 simp only [List.mem_cons, List.not_mem_nil, or_false] at h
 rcases h with rfl | rfl | rfl | rfl | rfl <;> first | exact LB_none | exact LB_q fits_one
theorem kids_1 {t : Tm} (h : t.k = 7 ∨ t.k = 8) : kids t = [t.a] := by unfold kids; rw [if_pos h]
theorem kids_2 {t : Tm} (h : t.k = 3 ∨ t.k = 4 ∨ t.k = 5 ∨ t.k = 6) : kids t = [t.a, t.b] := by unfold kids; rw [if_neg (by omega), if_pos h]
theorem lean_stay {c : List Tm} {s : Int} {x : Nat} : ∀ {N M : Nat}, x < N → N ≤ M → (leanN c s M)[x]? = (leanN c s N)[x]?
 | N, 0, h1, h2 => absurd h2 (by omega)
 | N, M + 1, h1, h2 => by
  by_cases e : N = M + 1
  ·rw [e]
  ·rw [← lean_stay (M := M) h1 (by omega)]
   conv => lhs; unfold leanN
   split
   ·unfold leanS
    split
    ·rfl
    ·rw [List.getElem?_set_ne (by omega)]
   ·rfl
theorem lean_self {c : List Tm} {s : Int} {q : Nat} {t : Tm} (ht : c[q]? = some t) (h1 : t.k ≠ 1) : (leanN c s (q + 1))[q]? = some (lean1 (leanN c s q) s t) := by
 have hlt := (List.getElem?_eq_some_iff.1 ht).1
 have hl := cnt_eq (leanN_len c s q)
 rw [leanN, ht]
 show (leanS _ _ _ _)[q]? = _
 unfold leanS
 rw [if_neg h1, List.getElem?_set_self (by omega)]
theorem lean_kids {c : List Tm} {s : Int} {q : Nat} {t : Tm} (ht : c[q]? = some t) (hok : termOk t q = true) (hl : (leanN c s c.length)[q]? = some true) :
  t.k = 2 ∨ ((t.k = 7 ∨ (t.k = 8 ∧ t.n ≠ 0)) ∧ bAt (leanN c s c.length) t.a = true) ∨ ((t.k = 3 ∨ t.k = 4 ∨ t.k = 5 ∨ t.k = 6) ∧ (bAt (leanN c s c.length) t.a = true ∨ bAt (leanN c s c.length) t.b = true)) := by
 have hlt := (List.getElem?_eq_some_iff.1 ht).1
 have h1 : t.k ≠ 1 := fun h => by
  rw [lean_lit ht h c.length] at hl
  injection hl with hl
  cases hl
 rw [lean_stay (N := q + 1) (by omega) (by omega), lean_self ht h1] at hl
 injection hl with hl
 have hst : ∀ x : Int, 0 ≤ x → x < q → bAt (leanN c s q) x = bAt (leanN c s c.length) x := fun x h0 h2 => by
  unfold bAt
  rw [lean_stay (N := q) (M := c.length) (by omega) (by omega)]
 unfold lean1 at hl
 rcases term_cases hok with h | ⟨h, h2⟩ | ⟨h, h2, h3⟩ | ⟨h, h2⟩ | ⟨h, h2, h3⟩
 ·exact absurd h h1
 ·exact .inl h
 ·rw [if_neg (by omega), if_neg (by omega), if_neg (by omega), Bool.or_eq_true, hst _ h2.1 h2.2, hst _ h3.1 h3.2] at hl
  exact .inr (.inr ⟨h, hl⟩)
 ·rw [if_neg (by omega), if_pos h, hst _ h2.1 h2.2] at hl
  exact .inr (.inl ⟨.inl h, hl⟩)
 ·rw [if_neg (by omega), if_neg (by omega), if_pos h, Bool.and_eq_true, hst _ h2.1 h2.2] at hl
  refine .inr (.inl ⟨.inr ⟨h, fun e => ?_⟩, hl.2⟩)
  rw [e] at hl
  simp at hl
theorem good_app {c : List Tm} {t : Tm} (h : goodC c = true) (ht : termOk t (cnt c) = true) : goodC (c ++ [t]) = true := goodC_iff.2 fun j u hj => by
 rcases Nat.lt_trichotomy j c.length with hlt | e | hgt
 ·rw [List.getElem?_append_left hlt] at hj
  exact goodC_iff.1 h j u hj
 ·subst e
  rw [List.getElem?_append_right (Nat.le_refl _), Nat.sub_self] at hj
  injection hj with hj
  subst hj
  exact ht
 ·rw [List.getElem?_eq_none (by rw [List.length_append]; simp; omega)] at hj
  cases hj
theorem none_none : noneB none3.1 none3.2.1 none3.2.2 = true := rfl
theorem ok_two {k a b i : Int} (hk : k = 3 ∨ k = 4 ∨ k = 5 ∨ k = 6) (ha : 0 ≤ a ∧ a < i) (hb : 0 ≤ b ∧ b < i) : termOk (mkT k a b 0) i = true := by
 unfold termOk mkT
 dsimp only
 rw [if_neg (by omega), none_none, if_neg (by omega), if_neg (by omega), if_neg (by omega), if_pos hk]
 unfold kid
 simp [ha.1, ha.2, hb.1, hb.2]
theorem ok_neg {a i : Int} (ha : 0 ≤ a ∧ a < i) : termOk (mkT 7 a 0 0) i = true := by
 unfold termOk mkT
 dsimp only
 rw [if_neg (by omega), none_none, if_neg (by omega), if_pos rfl]
 unfold kid
 simp [ha.1, ha.2]
theorem ok_pow {a n i : Int} (ha : 0 ≤ a ∧ a < i) (hn : -128 ≤ n ∧ n ≤ 128) : termOk (mkT 8 a 0 n) i = true := by
 unfold termOk mkT
 dsimp only
 rw [if_neg (by omega), none_none, if_neg (by omega), if_neg (by omega), if_pos rfl]
 unfold kid
 simp [ha.1, ha.2, hn.1, hn.2]
theorem ok_lit {v i : Int} (h : fits (v : Rat) = true) : termOk (litT v) i = true := by
 unfold termOk litT
 dsimp only
 rw [if_pos rfl, good_ratOf h]
 simp
theorem fits_int {v : Int} (h : -128 ≤ v ∧ v ≤ 128) : fits (v : Rat) = true := by
 have key : ∀ n : Nat, n ≤ 256 → fits (((n : Int) - 128 : Int) : Rat) = true := by decide +kernel
 have := key (v + 128).toNat (by omega)
 rwa [show (((v + 128).toNat : Int) - 128) = v by omega] at this
structure Rule (m : Int) (c : List Tm) (r : MS) : Prop where
 good : goodC r.1 = true
 grows : cnt c ≤ cnt r.1
 lo : m ≤ r.2.1
 hi : r.2.1 < cnt r.1
theorem Rule.more {m : Int} {c e : List Tm} {u : Tm} {b : Bool} (hg : goodC e = true) (hc : cnt c ≤ cnt e) (hm : m ≤ cnt c) (ht : termOk u (cnt e) = true) : Rule m c (e ++ [u], cnt e, b) :=
 ⟨good_app hg ht, by show cnt c ≤ cnt (e ++ [u]); rw [cnt_app]; omega, by show m ≤ cnt e; omega, by show cnt e < cnt (e ++ [u]); rw [cnt_app]; omega⟩
theorem Rule.none {m : Int} {c : List Tm} {x : Int} {b : Bool} (hg : goodC c = true) (h : m ≤ x ∧ x < cnt c) : Rule m c (c, x, b) := ⟨hg, Int.le_refl _, h.1, h.2⟩
theorem sum_rule {l : List Bool} {d : List Int} {c : List Tm} {t : Tm} {m : Int} {b : Bool} (hg : goodC c = true) (h0 : 0 ≤ m) (hm : m ≤ cnt c) (hk : t.k = 3 ∨ t.k = 4) (hab : bAt l t.a = true ∨ bAt l t.b = true) (hA : bAt l t.a = true → m ≤ dAt d t.a ∧ dAt d t.a < cnt c) (hB : bAt l t.b = true → m ≤ dAt d t.b ∧ dAt d t.b < cnt c) : Rule m c (sumS l d c b t) := by
 unfold sumS
 split
 ·rename_i a
  have a1 := hA a
  split
  ·rename_i e
   have e1 := hB e
   exact Rule.more hg (Int.le_refl _) hm (ok_two (by omega) ⟨by omega, a1.2⟩ ⟨by omega, e1.2⟩)
  ·exact Rule.none hg a1
 ·rename_i a
  have e1 := hB (hab.resolve_left a)
  split
  ·exact Rule.more hg (Int.le_refl _) hm (ok_neg ⟨by omega, e1.2⟩)
  ·exact Rule.none hg e1
theorem product_rule {l : List Bool} {d : List Int} {c : List Tm} {t : Tm} {m : Int} {b : Bool} (hg : goodC c = true) (h0 : 0 ≤ m) (hm : m ≤ cnt c) (ha : 0 ≤ t.a ∧ t.a < m) (hb : 0 ≤ t.b ∧ t.b < m) (hab : bAt l t.a = true ∨ bAt l t.b = true) (hA : bAt l t.a = true → m ≤ dAt d t.a ∧ dAt d t.a < cnt c) (hB : bAt l t.b = true → m ≤ dAt d t.b ∧ dAt d t.b < cnt c) : Rule m c (productS l d c b t) := by
 unfold productS
 dsimp only
 split
 ·rename_i e
  have e1 := hB e
  split
  ·rename_i a
   have a1 := hA a
   have g1 := good_app hg (ok_two (k := 5) (by omega) ⟨by omega, a1.2⟩ (show 0 ≤ t.b ∧ t.b < cnt c by omega))
   have g2 := good_app g1 (ok_two (k := 5) (a := t.a) (b := dAt d t.b) (by omega) (by rw [cnt_app]; omega) (by rw [cnt_app]; omega))
   exact Rule.more g2 (by simp only [cnt_app]; omega) hm (ok_two (by omega) (by simp only [cnt_app]; have := cnt0 c; omega) (by simp only [cnt_app]; have := cnt0 c; omega))
  ·exact Rule.more hg (Int.le_refl _) hm (ok_two (by omega) (by omega) ⟨by omega, e1.2⟩)
 ·rename_i e
  have a := hab.resolve_right e
  have a1 := hA a
  rw [if_pos a]
  exact Rule.more hg (Int.le_refl _) hm (ok_two (by omega) ⟨by omega, a1.2⟩ (by omega))
theorem quotient_rule {l : List Bool} {d : List Int} {c : List Tm} {t : Tm} {m : Int} {b : Bool} (hg : goodC c = true) (h0 : 0 ≤ m) (hm : m ≤ cnt c) (ha : 0 ≤ t.a ∧ t.a < m) (hb : 0 ≤ t.b ∧ t.b < m) (hab : bAt l t.a = true ∨ bAt l t.b = true) (hA : bAt l t.a = true → m ≤ dAt d t.a ∧ dAt d t.a < cnt c) (hB : bAt l t.b = true → m ≤ dAt d t.b ∧ dAt d t.b < cnt c) : Rule m c (quotientS l d c b t) := by
 have hc0 := cnt0 c
 unfold quotientS
 dsimp only
 split
 ·rename_i e
  have e1 := hB e
  split
  ·rename_i a
   have a1 := hA a
   have g1 := good_app hg (ok_two (k := 5) (by omega) ⟨by omega, a1.2⟩ (show 0 ≤ t.b ∧ t.b < cnt c by omega))
   have g2 := good_app g1 (ok_two (k := 5) (a := t.a) (b := dAt d t.b) (by omega) (by rw [cnt_app]; omega) (by rw [cnt_app]; omega))
   have g3 := good_app g2 (ok_two (k := 4) (a := cnt c) (b := cnt (c ++ [mkT 5 (dAt d t.a) t.b 0])) (by omega) (by simp only [cnt_app]; omega) (by simp only [cnt_app]; omega))
   have g4 := good_app g3 (ok_pow (a := t.b) (n := 2) (by simp only [cnt_app]; omega) (by omega))
   exact Rule.more g4 (by simp only [cnt_app]; omega) hm (ok_two (by omega) (by simp only [cnt_app]; omega) (by simp only [cnt_app]; omega))
  ·have g1 := good_app hg (ok_two (k := 5) (a := t.a) (b := dAt d t.b) (by omega) (by omega) ⟨by omega, e1.2⟩)
   have g2 := good_app g1 (ok_neg (a := cnt c) (by rw [cnt_app]; omega))
   have g3 := good_app g2 (ok_pow (a := t.b) (n := 2) (by simp only [cnt_app]; omega) (by omega))
   exact Rule.more g3 (by simp only [cnt_app]; omega) hm (ok_two (by omega) (by simp only [cnt_app]; omega) (by simp only [cnt_app]; omega))
 ·rename_i e
  have a1 := hA (hab.resolve_right e)
  exact Rule.more hg (Int.le_refl _) hm (ok_two (by omega) ⟨by omega, a1.2⟩ (by omega))
theorem raised_rule {d : List Int} {c : List Tm} {t : Tm} {m : Int} (hg : goodC c = true) (h0 : 0 ≤ m) (hm : m ≤ cnt c) (ha : 0 ≤ t.a ∧ t.a < m) (hn : -128 ≤ t.n ∧ t.n ≤ 128) (hA : m ≤ dAt d t.a ∧ dAt d t.a < cnt c) (hb : (raisedS d c false t).2.2 = false) : Rule m c (raisedS d c false t) := by
 have hc0 := cnt0 c
 unfold raisedS at hb ⊢
 split
 ·exact Rule.none hg hA
 ·rename_i h1
  rw [if_neg h1] at hb
  have hb : (false || decide (t.n - 1 < -128)) = false := hb
  simp only [Bool.false_or, decide_eq_false_iff_not] at hb
  dsimp only
  have g1 := good_app hg (ok_lit (v := t.n) (fits_int (by omega)))
  have g2 := good_app g1 (ok_pow (a := t.a) (n := t.n - 1) (by rw [cnt_app]; omega) (by omega))
  have g3 := good_app g2 (ok_two (k := 5) (a := cnt c) (b := cnt (c ++ [litT t.n])) (by omega) (by simp only [cnt_app]; omega) (by simp only [cnt_app]; omega))
  exact Rule.more g3 (by simp only [cnt_app]; omega) hm (ok_two (by omega) (by simp only [cnt_app]; omega) (by simp only [cnt_app]; omega))
theorem term_rule {l : List Bool} {d : List Int} {c : List Tm} {t : Tm} {i m : Int} (hg : goodC c = true) (h0 : 0 ≤ m) (hm : m ≤ cnt c) (him : i ≤ m) (ht : termOk t i = true) (hl : t.k = 2 ∨ ((t.k = 7 ∨ (t.k = 8 ∧ t.n ≠ 0)) ∧ bAt l t.a = true) ∨ ((t.k = 3 ∨ t.k = 4 ∨ t.k = 5 ∨ t.k = 6) ∧ (bAt l t.a = true ∨ bAt l t.b = true)))
  (hd : ∀ x ∈ kids t, bAt l x = true → m ≤ dAt d x ∧ dAt d x < cnt c) (hb : (termS l d c false t).2.2 = false) : Rule m c (termS l d c false t) := by
 unfold termS at hb ⊢
 rcases term_cases ht with h | ⟨h, h2⟩ | ⟨h, h2, h3⟩ | ⟨h, h2⟩ | ⟨h, h2, h3⟩
 ·omega
 ·rw [if_pos h]
  exact Rule.more hg (Int.le_refl _) hm (ok_lit (fits_int (by omega)))
 ·have hab : bAt l t.a = true ∨ bAt l t.b = true := by
   rcases hl with e | ⟨e, _⟩ | ⟨_, e⟩
   ·omega
   ·omega
   ·exact e
  have hA := fun e => hd t.a (by rw [kids_2 h]; simp) e
  have hB := fun e => hd t.b (by rw [kids_2 h]; simp) e
  rw [if_neg (by omega), if_neg (by omega)]
  rcases h with h | h | h | h
  ·rw [if_neg (by omega), if_neg (by omega), if_neg (by omega)]
   exact sum_rule hg h0 hm (.inl h) hab hA hB
  ·rw [if_neg (by omega), if_neg (by omega), if_neg (by omega)]
   exact sum_rule hg h0 hm (.inr h) hab hA hB
  ·rw [if_pos h]
   exact product_rule hg h0 hm (by omega) (by omega) hab hA hB
  ·rw [if_neg (by omega), if_pos h]
   exact quotient_rule hg h0 hm (by omega) (by omega) hab hA hB
 ·have hA := hd t.a (by rw [kids_1 (.inl h)]; simp) (by
   rcases hl with e | ⟨_, e⟩ | ⟨e, _⟩
   ·omega
   ·exact e
   ·omega)
  rw [if_neg (by omega), if_pos h]
  exact Rule.more hg (Int.le_refl _) hm (ok_neg ⟨by omega, hA.2⟩)
 ·have hA := hd t.a (by rw [kids_1 (.inr h)]; simp) (by
   rcases hl with e | ⟨_, e⟩ | ⟨e, _⟩
   ·omega
   ·exact e
   ·omega)
  rw [if_neg (by omega), if_neg (by omega), if_neg (by omega), if_neg (by omega), if_pos h] at hb ⊢
  exact raised_rule hg h0 hm (by omega) h3 hA hb
theorem term_bad (l : List Bool) (d : List Int) (c : List Tm) (t : Tm) : (termS l d c true t).2.2 = true := by
 unfold termS productS quotientS raisedS sumS
 repeat' split
 all_goals rfl
theorem dAt_set {d : List Int} {q : Nat} {x y : Int} (h0 : 0 ≤ x) (hq : q < d.length) : dAt (d.set q y) x = if x = q then y else dAt d x := by
 unfold dAt
 rw [List.getElem?_set]
 by_cases e : x = q
 ·rw [if_pos (by omega), if_pos hq, if_pos e]
  rfl
 ·rw [if_neg (by omega), if_neg e]
theorem der_inv {c : List Tm} {i s : Int} (hg : goodC c = true) (hi0 : 0 ≤ i) (hi1 : i < cnt c) : ∀ q : Nat, (q : Int) ≤ i + 1 → (derN c (leanN c s c.length) (needs c i.toNat) (i.toNat + 1) q).2.2 = false →
  goodC (derN c (leanN c s c.length) (needs c i.toNat) (i.toNat + 1) q).1 = true ∧ i + 1 ≤ cnt (derN c (leanN c s c.length) (needs c i.toNat) (i.toNat + 1) q).1 ∧
  ∀ j : Int, 0 ≤ j → j < q → (needs c i.toNat)[j.toNat]? = some true → (leanN c s c.length)[j.toNat]? = some true → i + 1 ≤ dAt (derN c (leanN c s c.length) (needs c i.toNat) (i.toNat + 1) q).2.1 j ∧ dAt (derN c (leanN c s c.length) (needs c i.toNat) (i.toNat + 1) q).2.1 j < cnt (derN c (leanN c s c.length) (needs c i.toNat) (i.toNat + 1) q).1
 | 0, _, _ => by
  unfold derN
  refine ⟨goodC_iff.2 fun j t hj => ?_, ?_, fun j h0 h1 => absurd h1 (by omega)⟩
  ·rw [List.getElem?_take] at hj
   split at hj
   ·exact goodC_iff.1 hg j t hj
   ·cases hj
  ·show i + 1 ≤ cnt (c.take (i.toNat + 1))
   unfold cnt at *
   rw [List.length_take]
   omega
 | q + 1, hq, hb => by
  have hlt : q < c.length := by unfold cnt at hi1; omega
  obtain ⟨t, ht⟩ : ∃ t, c[q]? = some t := ⟨_, List.getElem?_eq_getElem hlt⟩
  have hlen := der_len c (leanN c s c.length) (needs c i.toNat) (i.toNat + 1) q
  have hih := der_inv hg hi0 hi1 (s := s) q (by omega)
  unfold derN at hb ⊢
  by_cases hc : (needs c i.toNat)[q]? = some true ∧ (leanN c s c.length)[q]? = some true
  ·rw [if_pos hc, ht] at hb ⊢
   dsimp only at hb ⊢
   generalize derN c (leanN c s c.length) (needs c i.toNat) (i.toNat + 1) q = p at *
   obtain ⟨cc, dd, bd⟩ := p
   dsimp only at *
   cases bd
   case true => rw [term_bad] at hb; cases hb
   obtain ⟨g1, g2, g3⟩ := hih rfl
   have hok := goodC_iff.1 hg q t ht
   have hR := term_rule (m := i + 1) (i := q) g1 (by omega) g2 (by omega) hok (lean_kids ht hok hc.2) (fun x hx hb => by
    have hx' := kids_in hok x hx
    refine g3 x hx'.1 hx'.2 (needs_kid (ahead_of hg) ht hx hc.1) ?_
    unfold bAt at hb
    cases e : (leanN c s c.length)[x.toNat]? with
    | none => rw [e] at hb; cases hb
    | some b => rw [e] at hb; have : b = true := hb; rw [this]) hb
   have hl : q < dd.length := by unfold cnt at hlen; omega
   refine ⟨hR.good, Int.le_trans g2 hR.grows, fun j j0 j1 n1 l1 => ?_⟩
   rw [dAt_set j0 hl]
   split
   ·exact ⟨hR.lo, hR.hi⟩
   ·rename_i hne
    have := g3 j j0 (by omega) n1 l1
    exact ⟨this.1, Int.lt_of_lt_of_le this.2 hR.grows⟩
  ·rw [if_neg hc] at hb ⊢
   obtain ⟨g1, g2, g3⟩ := hih hb
   refine ⟨g1, g2, fun j j0 j1 n1 l1 => ?_⟩
   by_cases e : j = q
   ·rw [e] at n1 l1
    exact absurd ⟨n1, l1⟩ hc
   ·exact g3 j j0 (by omega) n1 l1
end Go.Proofs.YtjkcmnedolfkjaaGreat.Rd
end
