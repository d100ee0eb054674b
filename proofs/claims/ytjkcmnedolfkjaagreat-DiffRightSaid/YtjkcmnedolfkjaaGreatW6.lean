/- Part 6 of the proof. -/
import Derived.Below
import Derived.Deep.Draws
import Derived.Deep.AppendLies
import Derived.Maps.AppendAt
import Derived.OwnWalk
import Derived.Laws.BytesArg
import Derived.Laws.MakeOwn
import Derived.Laws.OwnMore
import Derived.Deep.OwnRows
import Derived.Tactics
import Derived.Lib.ConvBytes
import Derived.Laws.Slices
import Derived.WalkKit
import Derived.KernelRfl
import Derived.RowKit3
import Derived.Deep.LoopGhost
import Derived.Deep.QuietTactic
import Derived.BigQuiet
import Derived.WideLaws
import Derived.Deep.DeepCutAuto
import Derived.Deep.CutBlock
import Derived.Deep.RegionHeld3
import Derived.Laws.Rows
import Derived.Lib.AppendStr
import Derived.ArgAppend
import Derived.Laws.IdiomCopy
import Derived.RowKit
import Derived.OrdersHeld
import Derived.Laws.BitsLemmas
import Derived.Test.YtjkcmnedolfkjaaGreatProg
import Derived.Laws.StructEq
import Derived.Laws.Bits64b
import Derived.Laws.BitsAllLaws
import Derived.Laws.Tables
import Derived.Orders
import Derived.Laws.Cells
import Derived.Great.BuildSlice
import Derived.Deep.Slices
import Derived.Laws.AppendOwn
import Derived.Laws.LoneSync
import Derived.LoopN
import Derived.Conc.MuLone
import Derived.RegionTactic
import Derived.RegionCalls
import Derived.ChangeAlike
import Derived.Test.YtjkcmnedolfkjaaGreatW5
set_option linter.unusedVariables false
set_option linter.unusedSimpArgs false
section
set_option linter.unusedVariables false
set_option linter.unusedSimpArgs false
namespace Go.Proofs.YtjkcmnedolfkjaaGreat.Num
open Go.RowKit Go.Proofs.YtjkcmnedolfkjaaGreatW.PrintWords Go.Proofs.YtjkcmnedolfkjaaGreatW.PrintMore Go.Proofs.YtjkcmnedolfkjaaGreat.PL
def Z (neg : Bool) (l : List Int) : Int := if neg = true then -(V l : Int) else (V l : Int)
def I (z : Int) : Bool × List Int := (decide (z < 0),N z.natAbs)
theorem qAm (neg : Bool) (l : List Int) : (Z neg l).natAbs = V l := by unfold Z; split <;> omega
theorem I_1 (z : Int) : (I z).1 = decide (z < 0) := rfl
theorem I_2 (z : Int) : (I z).2 = N z.natAbs := rfl
theorem Z_I (z : Int) : Z (I z).1 (I z).2 = z := by
 unfold Z I
 simp only [V_N,decide_eq_true_eq]
 split <;> omega
abbrev R3 : Type := Bool × List Int × List Int
abbrev R4 : Type := Bool × List Int × List Int × Int
def q0x (q : Rat) : R3 := (decide (q.num < 0),N q.num.natAbs,N q.den)
def fits (q : Rat) : Bool := decide (len q.num.natAbs ≤ 64) && decide (len q.den ≤ 64)
def bad (e : Int) : R4 := (false,[],[],e)
def lim (q : Rat) : R4 := if fits q = true then ((q0x q).1,(q0x q).2.1,(q0x q).2.2,0) else bad 2
def qOf (a : R3) : Rat := mkRat (Z a.1 a.2.1) (V a.2.2)
def q1r (a : R3) : Bool := decide (N (V a.2.1) = a.2.1) && decide (N (V a.2.2) = a.2.2) && decide (a.2.2.length ≠ 0) && decide (a.2.2.length ≤ 64) && decide (a.2.1.length ≤ 64) && !(a.1 && decide (a.2.1.length = 0)) && decide (Nat.gcd (V a.2.1) (V a.2.2) = 1)
theorem q6f (z : Int) (b : Nat) (hb : b ≠ 0) : (mkRat z b).num.natAbs = z.natAbs / Nat.gcd z.natAbs b ∧ (mkRat z b).den = b / Nat.gcd z.natAbs b ∧ decide ((mkRat z b).num < 0) = decide (z < 0) := by
 rw [Rat.num_mkRat,Rat.den_mkRat,if_neg hb,if_neg hb,Nat.gcd_comm b]
 have hg : 0 < Nat.gcd z.natAbs b := Nat.gcd_pos_of_pos_right _ (by omega)
 have hd : ((Nat.gcd z.natAbs b : Nat) : Int) ∣ z := Int.ofNat_dvd_left.2 (Nat.gcd_dvd_left _ _)
 generalize Nat.gcd z.natAbs b = g at *
 obtain ⟨c,hc⟩ := hd
 refine ⟨?_,rfl,?_⟩
 ·rw [hc,Int.mul_ediv_cancel_left _ (by omega),Int.natAbs_mul,Int.natAbs_natCast,Nat.mul_div_cancel_left _ hg]
 ·rw [hc,Int.mul_ediv_cancel_left _ (by omega),decide_eq_decide]
  constructor
  ·intro h
   exact Int.mul_neg_of_pos_of_neg (by omega) h
  ·intro h
   by_cases h2 : c < 0
   ·exact h2
   ·have := Int.mul_nonneg (show 0 ≤ (g : Int) from by omega) (show 0 ≤ c from by omega)
    omega
theorem q3c {a : R3} : q1r a = true ↔ ∃ q : Rat,fits q = true ∧ a = q0x q := by
 obtain ⟨neg,l,b⟩ := a
 unfold q1r
 simp only [Bool.and_eq_true,decide_eq_true_eq,Bool.not_eq_true',Bool.and_eq_false_iff,decide_eq_false_iff_not]
 constructor
 ·rintro ⟨⟨⟨⟨⟨⟨h1,h2⟩,h3⟩,h4⟩,h5⟩,h6⟩,h7⟩
  have hB : V b ≠ 0 := fun h => by
   rw [h,q5j] at h2
   exact h3 (by rw [← h2]; rfl)
  obtain ⟨p1,p2,p3⟩ := q6f (Z neg l) (V b) hB
  rw [qAm,h7,Nat.div_one] at p1 p2
  have hlen1 : len (V l) = l.length := by rw [← q1e,h1]
  have hlen2 : len (V b) = b.length := by rw [← q1e,h2]
  refine ⟨mkRat (Z neg l) (V b),?_,?_⟩
  ·unfold fits
   rw [p1,p2,hlen1,hlen2,decide_eq_true h5,decide_eq_true h4]
   rfl
  ·unfold q0x
   rw [p1,p2,p3,h1,h2]
   have : neg = decide (Z neg l < 0) := by
    have h0 : len (V l) = 0 ↔ V l = 0 := q3m
    unfold Z
    cases neg with
    | false => rw [if_neg (by simp)]; exact (decide_eq_false (by omega)).symm
    | true =>
     rw [if_pos rfl]
     refine (decide_eq_true ?_).symm
     rcases h6 with h6 | h6
     ·cases h6
     ·omega
   rw [← this]
 ·rintro ⟨q,hf,he⟩
  unfold q0x at he
  injection he with e1 e2
  injection e2 with e2 e3
  subst e1 e2 e3
  unfold fits at hf
  simp only [Bool.and_eq_true,decide_eq_true_eq] at hf
  rw [V_N,V_N,q1e,q1e]
  have hd := q.den_nz
  refine ⟨⟨⟨⟨⟨⟨rfl,rfl⟩,fun h => hd (q3m.1 h)⟩,hf.2⟩,hf.1⟩,?_⟩,q.reduced⟩
  by_cases h : q.num < 0
  ·right
   intro h2
   have := q3m.1 h2
   omega
  ·left
   exact decide_eq_false h
theorem qLr (q : Rat) : Z (q0x q).1 (q0x q).2.1 = q.num := Z_I q.num
theorem qHn (q : Rat) : V (q0x q).2.2 = q.den := V_N _
theorem q1b (q : Rat) : qOf (q0x q) = q := by
 unfold qOf
 rw [qLr,qHn,Rat.mkRat_self]
structure LR (a : R3) : Prop where
 t : q0i a.2.1
 b : q0i a.2.2
 lt : a.2.1.length < 100000
 lb : a.2.2.length < 100000
theorem q2w {q : Rat} (h : fits q = true) : len q.num.natAbs ≤ 64 ∧ len q.den ≤ 64 := by
 unfold fits at h
 simpa using h
theorem q5f {q : Rat} (h : fits q = true) : LR (q0x q) := by
 obtain ⟨h1,h2⟩ := q2w h
 exact ⟨q0t _,q0t _,by show len q.num.natAbs < _; omega,by show len q.den < _; omega⟩
theorem q2o {q : Rat} (h : fits q = true) : q1r (q0x q) = true := q3c.2 ⟨q,h,rfl⟩
def qDz (a b : R3) : R4 := if (q1r a && q1r b) = true then lim (qOf a + qOf b) else bad 1
def qIn (a b : R3) : R4 := if (q1r a && q1r b) = true then lim (qOf a * qOf b) else bad 1
def qCd (a b : R3) : R4 := if (q1r a && q1r b) = true then (if qOf b = 0 then bad 3 else lim (qOf a / qOf b)) else bad 1
def qF (a b : R3) : R4 := if (q1r a && q1r b) = true then lim (qOf a - qOf b) else bad 1
def q7a : R3 := (false,[],[])
def qEl (a : R3) : R3 := if q1r a = true then q0x (-qOf a) else q7a
theorem q4s (a b : Nat) : len (a * b) ≤ len a + len b := q2x.2 (by rw [Nat.pow_add]; exact Nat.mul_lt_mul'' (q7l a) (q7l b))
theorem q5g (a b : Int) : len (a * b).natAbs ≤ len a.natAbs + len b.natAbs := by rw [Int.natAbs_mul]; exact q4s _ _
theorem qDh (a b : Nat) : len (a + b) ≤ len a + len b + 1 := q2x.2        (by
 have h3 := q7l a
 have h4 := q7l b
 have h5 : 4294967296 ^ len a ≤ 4294967296 ^ (len a + len b) := Nat.pow_le_pow_right (by omega) (by omega)
 have h6 : 4294967296 ^ len b ≤ 4294967296 ^ (len a + len b) := Nat.pow_le_pow_right (by omega) (by omega)
 rw [Nat.pow_succ]
 omega)
theorem qIh (a b : Int) : len (a + b).natAbs ≤ len a.natAbs + len b.natAbs + 1 := Nat.le_trans (q2h (Int.natAbs_add_le a b)) (qDh _ _)
theorem qOs (q : Rat) (h : q.num ≠ 0) : q⁻¹ = mkRat (if q.num < 0 then -(q.den : Int) else (q.den : Int)) q.num.natAbs := by
 rw [Rat.inv_def]
 generalize q.num = z at *
 cases z with
 | ofNat n => rw [if_neg (by simp)]; rfl
 | negSucc n =>
  rw [if_pos (Int.negSucc_lt_zero n)]
  show Rat.normalize (-(q.den : Int)) (n + 1) (Nat.succ_ne_zero n) = _
  rw [Rat.normalize_eq_mkRat]
  rfl
theorem j0z (p q : Rat) (h : q.num ≠ 0) : mkRat (if q.num < 0 then -(p.num * q.den) else p.num * q.den) (p.den * q.num.natAbs) = p / q := by
 rw [Rat.div_def,qOs q h]
 conv => rhs; rw [← Rat.mkRat_self p,Rat.mkRat_mul_mkRat]
 split
 ·rw [Int.mul_neg]
 ·rfl
theorem q8w (q : Rat) : fits (-q) = fits q := by unfold fits; rw [Rat.neg_num,Rat.neg_den,Int.natAbs_neg]
theorem qTm : q1r q7a = false := by unfold q1r q7a; simp
theorem j0m {a : R3} : LR (qEl a) := by
 unfold qEl
 by_cases h : q1r a = true
 ·rw [if_pos h]
  obtain ⟨p,hp,rfl⟩ := q3c.1 h
  rw [q1b]
  exact q5f (by rw [q8w]; exact hp)
 ·rw [if_neg h]
  exact ⟨q0i.nil,q0i.nil,by show 0 < _; omega,by show 0 < _; omega⟩
theorem sub_eq (a b : R3) : qDz a (qEl b) = qF a b := by
 unfold qDz qF qEl
 by_cases h : q1r b = true
 ·rw [if_pos h]
  obtain ⟨p,hp,rfl⟩ := q3c.1 h
  rw [q1b,q1b,q2o (by rw [q8w]; exact hp),h,Rat.sub_eq_add_neg]
 ·rw [if_neg h,qTm,Bool.and_false,if_neg (by simp),if_neg (by simp [h])]
theorem qKo (v : Int) : q0x (v : Rat) = ((I v).1,(I v).2,N 1) := by
 unfold q0x I
 rw [Rat.num_intCast,Rat.den_intCast]
theorem q7q (v : Int) (h : v.natAbs < 18446744073709551616) : fits (v : Rat) = true := by
 unfold fits
 rw [Rat.num_intCast,Rat.den_intCast]
 have h1 : len v.natAbs ≤ 2 := q2x.2 (by omega)
 have h2 : len 1 ≤ 1 := q2x.2 (by omega)
 simp
 omega
theorem j3v : N 1 = [1] := by rw [qNe (by omega),q5j]; rfl
structure LB (a : R3) : Prop where
 t : q0i a.2.1
 b : q0i a.2.2
 lt : a.2.1.length < 9223372036854775808
 lb : a.2.2.length < 9223372036854775808
theorem LR.wide {a : R3} (h : LR a) : LB a := ⟨h.t,h.b,by have := h.lt; omega,by have := h.lb; omega⟩
def qLm (a : R3) (n : Int) : R4 := if q1r a = true then (if -128 ≤ n ∧ n ≤ 128 then (if n < 0 ∧ qOf a = 0 then bad 3 else lim (qOf a ^ n)) else bad 2) else bad 1
theorem qOb (p : Rat) (e : Nat) (h0 : 0 < e) (h1 : e ≤ 128) : Z ((q0x p).1 && (Int.tmod (e : Int) 2 == 1)) (N (p.num.natAbs ^ e)) = p.num ^ e := by
 unfold Z
 rw [V_N,show (q0x p).1 = decide (p.num < 0) from rfl]
 generalize p.num = z
 have ht : Int.tmod (e : Int) 2 = ((e % 2 : Nat) : Int) := rfl
 rw [ht]
 by_cases hz : z < 0
 ·rw [decide_eq_true hz,Bool.true_and]
  obtain ⟨m,rfl⟩ : ∃ m : Nat,z = -(m : Int) := ⟨z.natAbs,by omega⟩
  rw [Int.natAbs_neg,Int.natAbs_natCast,Int.natCast_pow]
  rcases Nat.mod_two_eq_zero_or_one e with h | h
  ·rw [h,if_neg (by decide)]
   obtain ⟨c,hc⟩ : ∃ c,e = 2 * c := ⟨e / 2,by omega⟩
   rw [hc,Int.pow_mul,Int.pow_mul]
   congr 1
   rw [Int.pow_succ,Int.pow_succ,Int.pow_succ,Int.pow_succ,Int.pow_zero,Int.pow_zero,Int.one_mul,Int.one_mul,Int.neg_mul_neg]
  ·rw [h,if_pos (by decide)]
   obtain ⟨c,hc⟩ : ∃ c,e = 2 * c + 1 := ⟨e / 2,by omega⟩
   rw [hc,Int.pow_succ,Int.pow_succ,Int.pow_mul,Int.pow_mul,Int.mul_neg]
   congr 3
   rw [Int.pow_succ,Int.pow_succ,Int.pow_succ,Int.pow_succ,Int.pow_zero,Int.pow_zero,Int.one_mul,Int.one_mul,Int.neg_mul_neg]
 ·rw [decide_eq_false hz,Bool.false_and,if_neg (by simp),Int.natCast_pow]
  congr 1
  omega
theorem pow_mk (p : Rat) (e : Nat) : mkRat (p.num ^ e) (p.den ^ e) = p ^ e := by
 have := Rat.mkRat_self (p ^ e)
 rw [Rat.num_pow,Rat.den_pow] at this
 exact this
theorem qTe (p : Rat) (e : Nat) (h : ¬ (len (p.num.natAbs ^ e) ≤ 256) ∨ ¬ (len (p.den ^ e) ≤ 256)) : lim (p ^ e) = bad 2 := by
 unfold lim
 rw [if_neg]
 unfold fits
 rw [Rat.num_pow,Rat.den_pow,Int.natAbs_pow]
 intro h2
 simp only [Bool.and_eq_true,decide_eq_true_eq] at h2
 omega
theorem qCu (q : Rat) (h : q ≠ 0) : (q⁻¹).num.natAbs = q.den ∧ (q⁻¹).den = q.num.natAbs := by
 have hz : q.num ≠ 0 := fun h2 => h (Rat.num_eq_zero.1 h2)
 rw [qOs q hz]
 obtain ⟨p1,p2,_⟩ := q6f (if q.num < 0 then -(q.den : Int) else (q.den : Int)) q.num.natAbs (by omega)
 have e : (if q.num < 0 then -(q.den : Int) else (q.den : Int)).natAbs = q.den := by split <;> omega
 have hr : Nat.gcd q.den q.num.natAbs = 1 := by rw [Nat.gcd_comm]; exact q.reduced
 rw [e,hr,Nat.div_one] at p1 p2
 exact ⟨p1,p2⟩
theorem q7v {q : Rat} (hq : fits q = true) (h : q ≠ 0) : fits q⁻¹ = true := by
 obtain ⟨f1,f2⟩ := q2w hq
 obtain ⟨e1,e2⟩ := qCu q h
 unfold fits
 rw [e1,e2,decide_eq_true f1,decide_eq_true f2]
 rfl
theorem qNb (p : Rat) (e : Nat) : p⁻¹ ^ e = (p ^ e)⁻¹ := by
 induction e with
 | zero => rw [Rat.pow_zero,Rat.pow_zero]; decide +kernel
 | succ e ih => rw [Rat.pow_succ,Rat.pow_succ,ih,Rat.inv_mul_rev,Rat.mul_comm]
theorem qHt {q : Rat} (h : fits q = true) : lim q = ((q0x q).1,(q0x q).2.1,(q0x q).2.2,0) := if_pos h
theorem qLz (p q : Rat) : len (p + q).num.natAbs ≤ len p.num.natAbs + len q.den + (len q.num.natAbs + len p.den) + 1 ∧ len (p + q).den ≤ len p.den + len q.den := by
 rw [Rat.add_def']
 obtain ⟨p1,p2,_⟩ := q6f (p.num * q.den + q.num * p.den) (p.den * q.den) (Nat.mul_ne_zero p.den_nz q.den_nz)
 rw [p1,p2]
 have a1 := q2h (Nat.div_le_self (p.num * q.den + q.num * p.den).natAbs (Nat.gcd (p.num * q.den + q.num * p.den).natAbs (p.den * q.den)))
 have a2 := q2h (Nat.div_le_self (p.den * q.den) (Nat.gcd (p.num * q.den + q.num * p.den).natAbs (p.den * q.den)))
 have a3 := qIh (p.num * q.den) (q.num * p.den)
 have a4 := q5g p.num q.den
 have a5 := q5g q.num p.den
 have a6 := q4s p.den q.den
 rw [Int.natAbs_natCast] at a4 a5
 omega
theorem qDl (a e : Nat) : len (a ^ e) ≤ e * len a + 1 := by
 induction e with
 | zero => rw [Nat.pow_zero,Nat.zero_mul]; exact q2x.2 (by decide)
 | succ e ih =>
  rw [Nat.pow_succ,Nat.succ_mul]
  have := q4s (a ^ e) a
  omega
theorem qCn (p : Rat) (e : Nat) : p ^ (-(e : Int)) = (p ^ e)⁻¹ := by rw [Rat.zpow_neg,Rat.zpow_natCast]
theorem qUt {p : Rat} (h : p ≠ 0) (e : Nat) : p ^ e ≠ 0 := by
 induction e with
 | zero => rw [Rat.pow_zero]; decide +kernel
 | succ e ih =>
  rw [Rat.pow_succ]
  intro h2
  rcases Rat.mul_eq_zero.1 h2 with h3 | h3
  ·exact ih h3
  ·exact h h3
theorem qUj {p q : Rat} (hp : fits p = true) (hq : fits q = true) (h0 : q ≠ 0) (hf : fits (p / q) = true) : qCd (q0x p) (q0x q) = ((q0x (p / q)).1,(q0x (p / q)).2.1,(q0x (p / q)).2.2,0) := by
 unfold qCd
 rw [q2o hp,q2o hq,q1b,q1b,if_neg h0,qHt hf]
 rfl
theorem qNq : fits (1 : Rat) = true := by decide +kernel
theorem qTu (k : Int) : ∃ m : Nat,k = (m : Int) ∨ k = -(m : Int) := ⟨k.natAbs,by omega⟩
theorem z_ne {p : Rat} (hp : p ≠ 0) (k : Int) : p ^ k ≠ 0 := by
 obtain ⟨m,rfl | rfl⟩ := qTu k
 ·rw [Rat.zpow_natCast]; exact qUt hp m
 ·rw [qCn]
  intro h
  have := Rat.mul_inv_cancel (p ^ m) (qUt hp m)
  rw [h,Rat.mul_zero] at this
  exact absurd this (by decide +kernel)
theorem q6q (p q : Rat) : len (p * q).num.natAbs ≤ len p.num.natAbs + len q.num.natAbs ∧ len (p * q).den ≤ len p.den + len q.den := by
 rw [Rat.mul_def']
 obtain ⟨p1,p2,_⟩ := q6f (p.num * q.num) (p.den * q.den) (Nat.mul_ne_zero p.den_nz q.den_nz)
 rw [p1,p2]
 have a1 := q2h (Nat.div_le_self (p.num * q.num).natAbs (Nat.gcd (p.num * q.num).natAbs (p.den * q.den)))
 have a2 := q2h (Nat.div_le_self (p.den * q.den) (Nat.gcd (p.num * q.num).natAbs (p.den * q.den)))
 have a3 := q5g p.num q.num
 have a4 := q4s p.den q.den
 omega
theorem qZa (x y : Int) : Z (decide (x < 0) != decide (y < 0)) (N (x.natAbs * y.natAbs)) = x * y := by
 unfold Z
 rw [V_N,Int.natCast_mul]
 by_cases hx : x < 0 <;> by_cases hy : y < 0
 ·rw [decide_eq_true hx,decide_eq_true hy,if_neg (by decide),show ((x.natAbs : Nat) : Int) = -x from by omega,show ((y.natAbs : Nat) : Int) = -y from by omega,Int.neg_mul_neg]
 ·rw [decide_eq_true hx,decide_eq_false hy,if_pos (by decide),show ((x.natAbs : Nat) : Int) = -x from by omega,show ((y.natAbs : Nat) : Int) = y from by omega,Int.neg_mul,Int.neg_neg]
 ·rw [decide_eq_false hx,decide_eq_true hy,if_pos (by decide),show ((x.natAbs : Nat) : Int) = x from by omega,show ((y.natAbs : Nat) : Int) = -y from by omega,Int.mul_neg,Int.neg_neg]
 ·rw [decide_eq_false hx,decide_eq_false hy,if_neg (by decide),show ((x.natAbs : Nat) : Int) = x from by omega,show ((y.natAbs : Nat) : Int) = y from by omega]
theorem q9y (a e : Nat) (h : len a ≤ 64) (he : e ≤ 128) : len (a ^ e) ≤ 8193 := by
 have h1 := qDl a e
 have h2 : e * len a ≤ 128 * 64 := Nat.mul_le_mul he h
 omega
end Go.Proofs.YtjkcmnedolfkjaaGreat.Num
end
section
set_option linter.unusedVariables false
set_option linter.unusedSimpArgs false
set_option maxRecDepth 100000
set_option maxHeartbeats 4000000
namespace Go.Proofs.YtjkcmnedolfkjaaGreat.Rd
open Go Go.RowKit Go.Proofs.YtjkcmnedolfkjaaGreatW.PrintWords Go.Proofs.YtjkcmnedolfkjaaGreat.PL Go.Proofs.YtjkcmnedolfkjaaGreat.Num
abbrev ui (n : Int) : U := .v (.int .i64 n)
abbrev ub (b : Bool) : U := .v (.bool b)
def uI (z : Int) : U := .agg [ub (decide (z < 0)),.l (N z.natAbs)]
theorem q2i (n : Nat) : cnt (N n) = len n := rfl
theorem qPg {l : List Int} (h : q0i l) : (len (V l) : Int) ≤ cnt l := by have := q7s h; unfold cnt; omega
theorem tI {C : Orc} {n : Nat} {us : List U} {z : Int} (h : C n us (uI z)) : ∃ s l,C n us (.agg [ub s,.l l]) ∧ s = decide (z < 0) ∧ l = N z.natAbs := ⟨_,_,h,rfl,rfl⟩
theorem tN {C : Orc} {n : Nat} {us : List U} {x : Nat} (h : C n us (.l (N x))) : ∃ l,C n us (.l l) ∧ l = N x := ⟨_,h,rfl⟩
theorem trimR {l : List Int} (hl : q0i l) (hs : cnt l ≤ 1000000) : q1a.R [.l l] (.l (N (V l))) := by obtain ⟨k,hk⟩ := (q2y hl (by unfold cnt at hs; omega)).rounds; exact ⟨k,_,_,rfl,hk,rfl⟩
theorem mulR {a b : List Int} (ha : q0i a) (hb : q0i b) (h1 : cnt a ≤ 1000000) (h2 : cnt b ≤ 1000000) : q1k.R [.l a,.l b] (.l (N (V a * V b))) := by obtain ⟨k,hk⟩ := (qAd ha hb (by unfold cnt at h1; omega) (by unfold cnt at h2; omega)).rounds; exact ⟨k,_,_,_,rfl,hk,rfl⟩
theorem addR {a b : List Int} (ha : q0i a) (hb : q0i b) (h1 : cnt a ≤ 1000000) (h2 : cnt b ≤ 1000000) : q3d.R [.l a,.l b] (.l (N (V a + V b))) := by obtain ⟨k,hk⟩ := (qVu ha hb (by unfold cnt at h1; omega) (by unfold cnt at h2; omega)).rounds; exact ⟨k,_,_,_,rfl,hk,rfl⟩
theorem subR {a b : List Int} (ha : q0i a) (hb : q0i b) (h1 : cnt a ≤ 1000000) (h2 : cnt b ≤ 1000000) : q1s.R [.l a,.l b] (.tup [.l (if V a < V b then [] else N (V a - V b)),ub (decide (V b ≤ V a))]) := by
 obtain ⟨k,hk⟩ := (qEq ha hb (by unfold cnt at h1; omega) (by unfold cnt at h2; omega)).rounds
 by_cases h : V a < V b
 ·rw [if_pos h] at hk; rw [if_pos h,decide_eq_false (by omega)]; exact ⟨k,_,_,_,_,rfl,hk,rfl⟩
 ·rw [if_neg h] at hk; rw [if_neg h,decide_eq_true (by omega)]; exact ⟨k,_,_,_,_,rfl,hk,rfl⟩
theorem ncmpR {a b : List Int} (ha : q0i a) (hb : q0i b) (h1 : cnt a ≤ 1000000) (h2 : cnt b ≤ 1000000) : q2p.R [.l a,.l b] (ui (q9a (V a) (V b))) := by obtain ⟨k,hk⟩ := (qJe ha hb (by unfold cnt at h1; omega) (by unfold cnt at h2; omega)).rounds; exact ⟨k,_,_,_,rfl,hk,rfl⟩
theorem gcdR {a b : List Int} (ha : q0i a) (hb : q0i b) (h1 : cnt a ≤ 1000000) (h2 : cnt b ≤ 1000000) : q2q.R [.l a,.l b] (.l (N (Nat.gcd (V a) (V b)))) := by obtain ⟨k,hk⟩ := (qWc ha hb (by unfold cnt at h1; omega) (by unfold cnt at h2; omega)).rounds; exact ⟨k,_,_,_,rfl,hk,rfl⟩
theorem nofR (n : Nat) (h : n < 18446744073709551616) : q3x.R [.v (.int .u64 n)] (.l (N n)) := by obtain ⟨k,hk⟩ := (q8c (v := n) (by omega) (by omega)).rounds; rw [Int.toNat_natCast] at hk; exact ⟨k,_,_,rfl,hk,rfl⟩
def qCz (us : List U) (u : U) : Prop := ∃ s l,q0i l ∧ cnt l ≤ 1000000 ∧ us = [ub s,.l l] ∧ u = uI (Z s l)
theorem uI_Z (s : Bool) (l : List Int) : uI (Z s l) = .agg [ub (s && decide (0 < cnt (N (V l)))),.l (N (V l))] := by
 unfold uI
 rw [qAm,q2i]
 have h0 : len (V l) = 0 ↔ V l = 0 := q3m
 have e : decide (Z s l < 0) = (s && decide (0 < (len (V l) : Int))) := by
  unfold Z
  cases s with
  | false => rw [if_neg (by simp),Bool.false_and]; exact decide_eq_false (by omega)
  | true => rw [if_pos rfl,Bool.true_and,decide_eq_decide]; omega
 rw [e]
theorem qDd : q0w Tryz.prog 132 qCz := sound [(133, q1a.R)] (q0c q1a.sound q0v) Tryz.func132 (by kernel_rfl) (by kernel_rfl) fun us u hR =>                             ⟨0, fun C E hC => by
 obtain ⟨s,l,hl,hs,rfl,hu⟩ := hR
 rw [uI_Z] at hu
 obtain ⟨l',k1,el⟩ := tN (hC 133 q1a.R (by simp) _ _ (trimR hl hs))
 rw [← el] at hu
 clear el
 have g := q6s l'
 by_cases h0 : 0 < cnt l' <;> cases s <;> cbv <;> (repeat ((first | refine ln fun _ _ _ => ?_ | refine tt ?_ | refine ff ?_ | refine rp fun _ _ _ => ?_ | refine cp fun _ => ?_ | refine cl ?_ | refine sd ?_); cbv)) <;> (rw [hu]; simp [h0])⟩
def qFu (us : List U) (u : U) : Prop := ∃ s l,q0i l ∧ cnt l ≤ 1000000 ∧ us = [.agg [ub s,.l l]] ∧ u = uI (Z s l)
theorem qPl : q0w Tryz.prog 142 qFu := sound [(132, qCz)] (q0c qDd q0v) Tryz.func142 (by kernel_rfl) (by kernel_rfl) fun us u hR =>                           ⟨0, fun C E hC => by
 obtain ⟨s,l,hl,hs,rfl,hu⟩ := hR
 obtain ⟨s1,l1,k1,e1,e2⟩ := tI (hC 132 qCz (by simp) _ _ ⟨s,l,hl,hs,rfl,rfl⟩)
 cbv
 (repeat ((refine cl ?_); cbv))
 rw [hu, e1, e2]; rfl⟩
def j2g (us : List U) (u : U) : Prop := ∃ s l,q0i l ∧ cnt l ≤ 1000000 ∧ us = [.agg [ub s,.l l]] ∧ u = uI (-Z s l)
theorem Z_not (s : Bool) (l : List Int) : Z (!s) l = -Z s l := by unfold Z; cases s <;> simp
theorem j3h : q0w Tryz.prog 105 j2g := sound [(132, qCz)] (q0c qDd q0v) Tryz.func105 (by kernel_rfl) (by kernel_rfl) fun us u hR =>                         ⟨0, fun C E hC => by
 obtain ⟨s,l,hl,hs,rfl,hu⟩ := hR
 rw [← Z_not] at hu
 generalize hs' : (!s) = s' at hu
 obtain ⟨s1,l1,k1,e1,e2⟩ := tI (hC 132 qCz (by simp) _ _ ⟨s',l,hl,hs,rfl,rfl⟩)
 cases s <;> subst hs' <;> cbv <;> (repeat ((first | with_reducible refine bq ?_ | refine cl ?_); cbv)) <;> (rw [hu, e1, e2]; rfl)⟩
def qUg (us : List U) (u : U) : Prop := ∃ s1 l1 s2 l2,q0i l1 ∧ q0i l2 ∧ cnt l1 ≤ 100000 ∧ cnt l2 ≤ 100000 ∧ us = [.agg [ub s1,.l l1],.agg [ub s2,.l l2]] ∧ u = uI (Z s1 l1 * Z s2 l2)
theorem Z_mul (s1 s2 : Bool) (l1 l2 : List Int) : Z (s1 != s2) (N (V l1 * V l2)) = Z s1 l1 * Z s2 l2 := by
 unfold Z
 rw [V_N]
 cases s1 <;> cases s2 <;> simp [Int.mul_neg,Int.neg_mul]
theorem qTk {l1 l2 : List Int} (h1 : q0i l1) (h2 : q0i l2) : cnt (N (V l1 * V l2)) ≤ cnt l1 + cnt l2 := by
 have := q4s (V l1) (V l2)
 have := qPg h1
 have := qPg h2
 rw [q2i]
 omega
theorem qUf : q0w Tryz.prog 123 qUg := sound [(132, qCz), (122, q1k.R)] (q0c qDd (q0c q1k.sound q0v)) Tryz.func123 (by kernel_rfl) (by kernel_rfl) fun us u hR =>                                    ⟨0, fun C E hC => by
 obtain ⟨s1,l1,s2,l2,h1,h2,c1,c2,rfl,hu⟩ := hR
 rw [← Z_mul] at hu
 have c3 := qTk h1 h2
 obtain ⟨l3,k1,e3⟩ := tN (hC 122 q1k.R (by simp) _ _ (mulR h1 h2 (by omega) (by omega)))
 obtain ⟨s4,l4,k2,e4,e5⟩ := tI (hC 132 qCz (by simp) _ _ ⟨s1 != s2,N (V l1 * V l2),q0t _,by omega,rfl,rfl⟩)
 rw [← e3] at k2 hu e4 e5
 clear e3
 cases s1 <;> cases s2 <;> cbv <;> (repeat ((first | with_reducible refine bq ?_ | refine cl ?_); cbv)) <;> (rw [hu, e4, e5]; rfl)⟩
def j2v (us : List U) (u : U) : Prop := ∃ s1 l1 s2 l2,q0i l1 ∧ q0i l2 ∧ cnt l1 ≤ 100000 ∧ cnt l2 ≤ 100000 ∧ us = [.agg [ub s1,.l l1],.agg [ub s2,.l l2]] ∧ u = uI (Z s1 l1 + Z s2 l2)
theorem j2w : q0w Tryz.prog 120 j2v := sound [(132, qCz), (142, qFu), (143, q3d.R), (144, q1s.R)] (q0c qDd (q0c qPl (q0c q3d.sound (q0c q1s.sound q0v)))) Tryz.func120 (by kernel_rfl) (by kernel_rfl) fun us u hR =>                                                                ⟨0, fun C E hC => by
 obtain ⟨s1,l1,s2,l2,h1,h2,c1,c2,rfl,hu⟩ := hR
 obtain ⟨t1,m1,k1,e1,f1⟩ := tI (hC 142 qFu (by simp) _ _ ⟨s1,l1,h1,by omega,rfl,rfl⟩)
 obtain ⟨t2,m2,k2,e2,f2⟩ := tI (hC 142 qFu (by simp) _ _ ⟨s2,l2,h2,by omega,rfl,rfl⟩)
 have b1 := qPg h1
 have b2 := qPg h2
 rw [qAm] at f1 f2
 rw [← qAm s1 l1] at f1 b1
 rw [← qAm s2 l2] at f2 b2
 generalize Z s1 l1 = x at *
 generalize Z s2 l2 = y at *
 have g1 : q0i m1 := f1 ▸ q0t _
 have g2 : q0i m2 := f2 ▸ q0t _
 have v1 : V m1 = x.natAbs := by rw [f1,V_N]
 have v2 : V m2 = y.natAbs := by rw [f2,V_N]
 have d1 : cnt m1 ≤ 100000 := by rw [f1,q2i]; omega
 have d2 : cnt m2 ≤ 100000 := by rw [f2,q2i]; omega
 have fin : ∀ (s : Bool) (n : Nat),Z s (N n) = x + y → len n ≤ len x.natAbs + len y.natAbs + 1 → ∃ s4 l4,C 132 [ub s,.l (N n)] (.agg [ub s4,.l l4]) ∧ u = .agg [ub s4,.l l4] := fun s n hz hn => by
  have hs := hC 132 qCz (by simp) _ _ ⟨s,N n,q0t _,by rw [q2i]; omega,rfl,rfl⟩
  rw [hz] at hs
  exact ⟨_,_,hs,hu⟩
 have L1 := qDh x.natAbs y.natAbs
 by_cases hc : t1 = t2
 ·have k3 := hC 143 q3d.R (by simp) _ _ (addR g1 g2 (by omega) (by omega))
  rw [v1,v2] at k3
  obtain ⟨s4,l4,k4,hu'⟩ := fin t1 (x.natAbs + y.natAbs) (by unfold Z; rw [V_N,e1]; rw [e1,e2,decide_eq_decide] at hc; simp only [decide_eq_true_eq]; split <;> omega) (by omega)
  obtain ⟨l3,k3,e3⟩ := tN k3
  rw [← e3] at k4
  clear fin hu e3 e1 e2
  subst hc
  cases t1 <;> cbv <;> (repeat ((first | with_reducible refine bq ?_ | refine cl ?_); cbv)) <;> exact hu'.symm
 ·have k3 := hC 144 q1s.R (by simp) _ _ (subR g1 g2 (by omega) (by omega))
  rw [v1,v2] at k3
  by_cases hlt : x.natAbs < y.natAbs
  ·have k5 := hC 144 q1s.R (by simp) _ _ (subR g2 g1 (by omega) (by omega))
   rw [v1,v2,if_neg (by omega),decide_eq_true (by omega)] at k5
   rw [if_pos hlt,decide_eq_false (by omega)] at k3
   obtain ⟨s4,l4,k4,hu'⟩ := fin t2 (y.natAbs - x.natAbs) (by unfold Z; rw [V_N,e2]; rw [e1,e2,decide_eq_decide] at hc; simp only [decide_eq_true_eq]; split <;> omega) (by have := q2h (a := y.natAbs - x.natAbs) (b := y.natAbs) (by omega); omega)
   generalize N (y.natAbs - x.natAbs) = l3 at *
   clear fin hu e1 e2
   cases t1 <;> cases t2 <;> first | exact absurd rfl hc | (cbv; (repeat ((first | with_reducible refine bq ?_ | refine cl ?_); cbv)); exact hu'.symm)
  ·rw [if_neg hlt,decide_eq_true (by omega)] at k3
   obtain ⟨s4,l4,k4,hu'⟩ := fin t1 (x.natAbs - y.natAbs) (by unfold Z; rw [V_N,e1]; rw [e1,e2,decide_eq_decide] at hc; simp only [decide_eq_true_eq]; split <;> omega) (by have := q2h (a := x.natAbs - y.natAbs) (b := x.natAbs) (by omega); omega)
   generalize N (x.natAbs - y.natAbs) = l3 at *
   clear fin hu e1 e2
   cases t1 <;> cases t2 <;> first | exact absurd rfl hc | (cbv; (repeat ((first | with_reducible refine bq ?_ | refine cl ?_); cbv)); exact hu'.symm)⟩
def wOfR (us : List U) (u : U) : Prop := ∃ v : Int,-9223372036854775808 ≤ v ∧ v ≤ 9223372036854775807 ∧ us = [ui v] ∧ u = uI v
theorem wOf_ok : q0w Tryz.prog 108 wOfR := sound [(132, qCz), (109, q3x.R)] (q0c qDd (q0c q3x.sound q0v)) Tryz.func108 (by kernel_rfl) (by kernel_rfl) fun us u hR =>                              ⟨0, fun C E hC => by
 obtain ⟨v,h0,h1,rfl,hu⟩ := hR
 have hl : len v.natAbs ≤ 2 := q2x.2 (by omega)
 have k1 : ∀ r : Int,0 ≤ r → (r = v ∨ r = -v) → C 109 [.v (.int .u64 r)] (.l (N v.natAbs)) := fun r g0 g1 => by
  have := hC 109 q3x.R (by simp) _ _ (nofR v.natAbs (by omega))
  rwa [show ((v.natAbs : Nat) : Int) = r by omega] at this
 have k2 := hC 132 qCz (by simp) _ _ ⟨decide (v < 0),N v.natAbs,q0t _,by rw [q2i]; omega,rfl,rfl⟩
 rw [show Z (decide (v < 0)) (N v.natAbs) = v from Z_I v,← hu] at k2
 obtain ⟨s4,l4,hu'⟩ : ∃ s l,u = .agg [ub s,.l l] := ⟨_,_,hu⟩
 rw [hu'] at k2
 generalize N v.natAbs = l at *
 by_cases h : v < 0
 ·rw [decide_eq_true h] at k2
  cbv
  refine tt ?_
  cbv
  refine wu fun r1 q1 => ?_
  cbv
  refine wu fun r2 q2 => ?_
  cbv
  refine cl ?_ (k1 r2 (by omega) (by omega))
  cbv
  (repeat ((refine cl ?_); cbv))
  exact hu'.symm
 ·rw [decide_eq_false h] at k2
  cbv
  refine ff ?_
  cbv
  refine wu fun r1 q1 => ?_
  cbv
  refine cl ?_ (k1 r1 (by omega) (by omega))
  cbv
  (repeat ((refine cl ?_); cbv))
  exact hu'.symm⟩
def uR (a : R3) : U := .agg [ub a.1,.l a.2.1,.l a.2.2]
def uR4 (a : R4) : U := .tup [.agg [ub a.1,.l a.2.1,.l a.2.2.1],ui a.2.2.2]
theorem tR {C : Orc} {n : Nat} {us : List U} {a : R3} (h : C n us (uR a)) : ∃ s l b,C n us (.agg [ub s,.l l,.l b]) ∧ (s,l,b) = a := ⟨_,_,_,h,rfl⟩
theorem tR4 {C : Orc} {n : Nat} {us : List U} {a : R4} (h : C n us (uR4 a)) : ∃ s l b e,C n us (.tup [.agg [ub s,.l l,.l b],ui e]) ∧ (s,l,b,e) = a := ⟨_,_,_,_,h,rfl⟩
theorem LR.c1 {a : R3} (h : LR a) : cnt a.2.1 ≤ 100000 := by have := h.lt; unfold cnt; omega
theorem LR.c2 {a : R3} (h : LR a) : cnt a.2.2 ≤ 100000 := by have := h.lb; unfold cnt; omega
def q3p (us : List U) (u : U) : Prop := ∃ a : R3,LB a ∧ us = [uR a] ∧ u = ub (q1r a)
theorem j4i (n : Nat) : (q9a n 1 = 0) ↔ n = 1 := by
 unfold q9a
 split
 ·omega
 ·split <;> omega
theorem q8m : q0w Tryz.prog 86 q3p := sound [(115, q2m.R), (117, q2q.R), (109, q3x.R), (116, q2p.R)] (q0c q2m.sound (q0c q2q.sound (q0c q3x.sound (q0c q2p.sound q0v)))) Tryz.func86 (by kernel_rfl) (by kernel_rfl) fun us u hR =>                                                                        ⟨0, fun C E hC => by
 obtain ⟨⟨s,l,b⟩,⟨hl,hb,hsl,hsb⟩,rfl,hu⟩ := hR
 have hl : q0i l := hl
 have hb : q0i b := hb
 have k1 := hC 115 q2m.R (by simp) [.l l] _ ⟨_,_,rfl,qAp hl hsl,rfl⟩
 have k2 := hC 115 q2m.R (by simp) [.l b] _ ⟨_,_,rfl,qAp hb hsb,rfl⟩
 clear hsl hsb
 have g1 := q6s l
 have g2 := q6s b
 unfold q1r at hu
 dsimp only at hu
 have e1 : (decide (b.length ≠ 0)) = decide (cnt b ≠ 0) := by rw [decide_eq_decide]; unfold cnt; omega
 have e2 : (decide (b.length ≤ 64)) = decide (cnt b ≤ 64) := by rw [decide_eq_decide]; unfold cnt; omega
 have e3 : (decide (l.length ≤ 64)) = decide (cnt l ≤ 64) := by rw [decide_eq_decide]; unfold cnt; omega
 have e4 : (decide (l.length = 0)) = decide (cnt l = 0) := by rw [decide_eq_decide]; unfold cnt; omega
 rw [e1,e2,e3,e4] at hu
 clear e1 e2 e3 e4
 generalize decide (N (V l) = l) = t1 at *
 generalize decide (N (V b) = b) = t2 at *
 cases t1
 ·cbv; (repeat ((first | with_reducible refine bq ?_ | refine cl ?_); cbv)); rw [hu]; rfl
 cases t2
 ·cbv; (repeat ((first | with_reducible refine bq ?_ | refine cl ?_); cbv)); rw [hu]; rfl
 by_cases h3 : cnt b = 0
 ·cbv; (repeat ((first | refine ln fun _ _ _ => ?_ | refine tt ?_ | with_reducible refine bq ?_ | refine cl ?_); cbv)); rw [hu]; simp [h3]
 by_cases h4 : cnt b ≤ 64
 case neg => cbv; (repeat ((first | refine ln fun _ _ _ => ?_ | refine tt ?_ | refine ff ?_ | with_reducible refine bq ?_ | refine cl ?_); cbv)); rw [hu]; simp [h4]
 by_cases h5 : cnt l ≤ 64
 case neg => cbv; (repeat ((first | refine ln fun _ _ _ => ?_ | refine tt ?_ | refine ff ?_ | with_reducible refine bq ?_ | refine cl ?_); cbv)); rw [hu]; simp [h5]
 have k3 := hC 117 q2q.R (by simp) _ _ (gcdR hl hb (by omega) (by omega))
 have k4 := hC 109 q3x.R (by simp) _ _ (nofR 1 (by omega))
 have hg : len (Nat.gcd (V l) (V b)) ≤ 64 := by
  have a1 := qPg hl
  have a2 := qPg hb
  by_cases h : V b = 0
  ·rw [h,Nat.gcd_zero_right]; omega
  ·have := q2h (Nat.gcd_le_right (V l) (n := V b) (by omega)); omega
 have h11 : len 1 ≤ 1 := q2x.2 (by omega)
 have k5 := hC 116 q2p.R (by simp) _ _ (ncmpR (q0t (Nat.gcd (V l) (V b))) (q0t 1) (by rw [q2i]; omega) (by rw [q2i]; omega))
 rw [V_N,V_N] at k5
 have hc := j4i (Nat.gcd (V l) (V b))
 generalize hd : q9a (Nat.gcd (V l) (V b)) 1 = d at *
 rw [show decide (Nat.gcd (V l) (V b) = 1) = decide (d = 0) by rw [decide_eq_decide]; exact hc.symm] at hu
 clear hc hd hg
 generalize N (Nat.gcd (V l) (V b)) = l3 at *
 generalize N 1 = l4 at *
 have fin : ∀ t : Bool,(t = true ↔ d = 0) → decide (d = 0) = t := fun t ht => by cases t <;> simp at ht ⊢ <;> exact ht
 cases s
 ·by_cases hd : d = 0 <;> cbv <;> (repeat ((first | refine ln fun _ _ _ => ?_ | refine tt ?_ | refine ff ?_ | with_reducible refine bq ?_ | refine cl ?_); cbv)) <;> (rw [hu]; simp [h3,h4,h5,hd])
 ·by_cases h6 : cnt l = 0
  ·cbv; (repeat ((first | refine ln fun _ _ _ => ?_ | refine tt ?_ | refine ff ?_ | with_reducible refine bq ?_ | refine cl ?_); cbv)); rw [hu]; simp [h6]
  ·by_cases hd : d = 0 <;> cbv <;> (repeat ((first | refine ln fun _ _ _ => ?_ | refine tt ?_ | refine ff ?_ | with_reducible refine bq ?_ | refine cl ?_); cbv)) <;> (rw [hu]; simp [h3, h4, h5, h6, hd])⟩
def q6t (L : List Nat) : Nat → List U → List U
 | _,[] => []
 | i,u :: us => (if L.contains i then u else .lost) :: q6t L (i + 1) us
def qQv (L : List Nat) (a : List U) : List U := q6t L 0 a
def j0j (n : Nat) : U → Bool
 | .lost => true
 | .tup _ => false
 | .agg us => us.all (qNc n)
 | .clo _ us => us.all (qNc n)
 | u => qNc n u
def oldO (n : Nat) : Option Ob → Bool
 | some (.cells us) => us.all (j0j n)
 | _ => true
def okK (n : Nat) (L : List Nat) (a : List U) (h : q1f) : Bool := decide (n ≤ h.length) && (qQv L a).all (j0j n) && (h.take n).all (oldO n)
theorem qWf {n : Nat} {js : List Nat} (hj : ∀ i,i < n → js[i]? = some i) {u : U} (h : j0j n u = true) : wkU n js u u := by
 cases u with
 | tup us => cases h
 | lost => trivial
 | agg us => exact ⟨h,rfl⟩
 | clo f us => exact ⟨h,rfl⟩
 | ptr id off => exact ⟨id,hj _ (by simpa [j0j,qNc] using h),rfl⟩
 | pe id k i off => exact ⟨id,hj _ (by simpa [j0j,qNc] using h),rfl⟩
 | sl id l c k => exact ⟨id,hj _ (by simpa [j0j,qNc] using h),rfl⟩
 | _ => rfl
theorem qHh {n : Nat} {js : List Nat} (hj : ∀ i,i < n → js[i]? = some i) (L : List Nat) : ∀ (a : List U) (i : Nat),(q6t L i a).all (j0j n) = true → wkA n js a (q6t L i a)
 | [],_,_ => trivial
 | u :: us,i,h => by
  unfold q6t at h ⊢
  rw [List.all_cons,Bool.and_eq_true] at h
  refine ⟨?_,qHh hj L us (i + 1) h.2⟩
  split
  ·rename_i hc
   rw [if_pos hc] at h
   exact qWf hj h.1
  ·trivial
theorem qRs {n : Nat} {js : List Nat} (hj : ∀ i,i < n → js[i]? = some i) : ∀ (us : List U),us.all (j0j n) = true → wkA n js us us
 | [],_ => trivial
 | u :: us,h => by
  rw [List.all_cons,Bool.and_eq_true] at h
  exact ⟨qWf hj h.1,qRs hj us h.2⟩
theorem qHd {n : Nat} {JS : List Nat} (hj : ∀ i,i < n → JS[i]? = some i) {h : q1f} : ∀ (m : Nat) (h1 h2 : q1f),h = h1 ++ h2 → n = h1.length + m → m ≤ h2.length → (h2.take m).all (oldO n) = true → wkH n JS h ((List.range' h1.length m)) (h2.take m)
 | 0,_,_,_,_,_,_ => by simp [wkH]
 | m + 1,h1,[],_,_,hl,_ => by simp at hl
 | m + 1,h1,o :: h2,e,en,hl,ho => by
  rw [List.take_succ_cons,List.all_cons,Bool.and_eq_true] at ho
  rw [List.take_succ_cons,List.range'_succ]
  refine ⟨?_,?_⟩
  ·cases o with
   | none => trivial
   | some ob =>
    have ha : q0r h h1.length = some ob := by unfold q0r; rw [e]; simp
    cases ob with
    | cells us => exact ⟨us,ha,qRs hj us ho.1⟩
    | row k xs => exact ha
    | lim xs => exact ha
  ·have := qHd (n := n) hj (h := h) m (h1 ++ [o]) h2 (by rw [e]; simp) (by simp; omega) (by simpa using hl) ho.2
   simpa using this
theorem q8d : ∀ (js : List Nat) (os : q1f),(q6h js os).Sublist js
 | [],_ => by simp [q6h]
 | _ :: _,[] => by simp [q6h]
 | j :: js,some o :: os => by simp only [q6h]; exact (q8d js os).cons_cons j
 | j :: js,none :: os => by simp only [q6h]; exact (q8d js os).cons j
theorem q4n {n : Nat} {a : List U} {h : q1f} {k : List U → q1f → Prop} (L : List Nat) (hk : k (qQv L a) (h.take n)) (hc : okK n L a h = true := by rfl) : qUd n a h k := by
 unfold okK at hc
 simp only [Bool.and_eq_true,decide_eq_true_eq] at hc
 obtain ⟨⟨h1,h2⟩,h3⟩ := hc
 have hjs : ∀ i,i < n → (List.range n)[i]? = some i := fun i hi => by simp [hi]
 refine ⟨⟨[],_,_,⟨?_,?_,?_⟩,hk⟩⟩
 ·unfold qFj
  simp [h1,(q8d (List.range n) (h.take n)).nodup List.nodup_range]
 ·rw [List.append_nil]
  exact qHh hjs L a 0 h2
 ·rw [List.append_nil]
  have := qHd (JS := List.range n) hjs n [] h rfl (by simp) h1 h3
  simpa [← List.range_eq_range'] using this
theorem qSk {n : Nat} {js : List Nat} {u w : U} (hw : wkU n js u w) : ∀ {a b : List U} {T : Nat},wkA n js a b → a[T]? = some u → wkA n js a (b.set T w)
 | [],[],_,_,h => by cases h
 | x :: a,y :: b,0,h,e => by
  injection e with e
  subst e
  exact ⟨hw,h.2⟩
 | x :: a,y :: b,T + 1,h,e => ⟨h.1,qSk hw h.2 (by simpa using e)⟩
 | [],_ :: _,_,h,_ => h.elim
 | _ :: _,[],_,h,_ => h.elim
theorem qOj {n : Nat} {JS : List Nat} {h : q1f} {j : Nat} {o : Option Ob} (ho : wkO n JS h j o) : ∀ {js : List Nat} {os : q1f},wkH n JS h js os → wkH n JS h (js ++ [j]) (os ++ [o])
 | [],[],_ => ⟨ho,trivial⟩
 | _ :: js,_ :: os,hh => ⟨hh.1,qOj ho hh.2⟩
 | [],_ :: _,hh => hh.elim
 | _ :: _,[],hh => hh.elim
theorem qQj {n : Nat} {a : List U} {h : q1f} {k : List U → q1f → Prop} (L : List Nat) (T j : Nat) {l c : Int} {e : Nat} {xs : Rows} (hk : k ((qQv L a).set T (.sl n l c e)) (h.take n ++ [some (.row e xs)])) (ha : a[T]? = some (.sl j l c e) := by rfl) (ho : q0r h j = some (.row e xs) := by rfl) (hj : n ≤ j ∧ j < h.length := by first | exact ⟨Nat.le_refl _,Nat.le_refl _⟩ | exact ⟨Nat.le_succ _,Nat.le_refl _⟩) (hc : okK n L a h = true := by rfl) : qUd n a h k := by
 unfold okK at hc
 simp only [Bool.and_eq_true,decide_eq_true_eq] at hc
 obtain ⟨⟨h1,h2⟩,h3⟩ := hc
 have hjs : ∀ i,i < n → (List.range n ++ [j])[i]? = some i := fun i hi => by
  rw [List.getElem?_append_left (by simpa using hi)]
  simp [hi]
 refine ⟨⟨[j],_,_,⟨?_,?_,?_⟩,hk⟩⟩
 ·unfold qFj
  have hnd : (List.range n ++ [j]).Nodup := by
   refine List.nodup_append.2 ⟨List.nodup_range,by simp,?_⟩
   intro x hx y hy
   rw [List.mem_singleton] at hy
   rw [List.mem_range] at hx
   omega
  simp [h1,hj.2,(q8d (List.range n ++ [j]) (h.take n ++ [some (.row e xs)])).nodup hnd]
 ·refine qSk ?_ (qHh hjs L a 0 h2) ha
  exact ⟨j,by simp,rfl⟩
 ·refine qOj (o := some (.row e xs)) (show q0r h j = _ from ho) ?_
  have := qHd hjs n [] h rfl (by simp) h1 h3
  simpa [← List.range_eq_range'] using this
theorem qPk : ∀ f fn, q9c f ([] : List (Nat × Func)) = some fn → Tryz.prog.funcs[f]? = some fn ∧ (fn.name == "runtime.NumGoroutine") = false ∧ fn.body.isSome = true := fun _ _ h => by cases h
theorem q8a {g : Nat} {gn : Func} {l : List (Nat × Func)} (h1 : Tryz.prog.funcs[g]? = some gn) (h2 : (gn.name == "runtime.NumGoroutine") = false) (h3 : gn.body.isSome = true) (hl : ∀ f fn, q9c f l = some fn → Tryz.prog.funcs[f]? = some fn ∧ (fn.name == "runtime.NumGoroutine") = false ∧ fn.body.isSome = true) :
  ∀ f fn, q9c f ((g, gn) :: l) = some fn → Tryz.prog.funcs[f]? = some fn ∧ (fn.name == "runtime.NumGoroutine") = false ∧ fn.body.isSome = true := fun f fn h => by
 unfold q9c at h
 split at h
 ·rename_i e
  injection h with h
  subst e h
  exact ⟨h1,h2,h3⟩
 ·exact hl f fn h
theorem nd_of {l : List (Nat × Func)} (h : (l.map (·.1)).Nodup) : ∀ f fn,(f,fn) ∈ l → q9c f l = some fn := by
 induction l with
 | nil => intro f fn h; cases h
 | cons x l ih =>
  obtain ⟨g,gn⟩ := x
  intro f fn hm
  rw [List.map_cons,List.nodup_cons] at h
  unfold q9c
  rcases List.mem_cons.1 hm with e | hm
  ·injection e with e1 e2
   subst e1 e2
   rw [if_pos rfl]
  ·have : g ≠ f := fun e => h.1 (List.mem_map.2 ⟨(f,fn),hm,e.symm⟩)
   rw [if_neg this]
   exact ih h.2 f fn hm
structure Tm where
 k : Int
 a : Int
 b : Int
 n : Int
 q : R3
def qU (q : R3) : List U := [ub q.1,.l q.2.1,.l q.2.2]
def tU (t : Tm) : List U := [ui t.k,ui t.a,ui t.b,ui t.n,ub t.q.1,.l t.q.2.1,.l t.q.2.2]
def cU (c : List Tm) : U := .s 7 (c.map tU)
def qsU (qs : List R3) : U := .s 3 (qs.map qU)
def kid (x i : Int) : Bool := decide (0 ≤ x) && decide (x < i)
def qKb (s : Bool) (l b : List Int) : Bool := !s && decide (cnt l = 0) && decide (cnt b = 0)
def q1n (t : Tm) (i : Int) : Bool :=
 if t.k = 1 then decide (t.a = 0 ∧ t.b = 0 ∧ t.n = 0) && q1r t.q
 else qKb t.q.1 t.q.2.1 t.q.2.2 &&   (
  if t.k = 2 then decide (t.a = 0 ∧ t.b = 0) && decide (0 ≤ t.n)
  else if t.k = 7 then decide (t.b = 0 ∧ t.n = 0) && kid t.a i
  else if t.k = 8 then decide (t.b = 0) && kid t.a i && decide (-128 ≤ t.n) && decide (t.n ≤ 128)
  else if t.k = 3 ∨ t.k = 4 ∨ t.k = 5 ∨ t.k = 6 then decide (t.n = 0) && kid t.a i && kid t.b i
  else false)
def j3l (us : List U) (u : U) : Prop := ∃ s l b,us = [.agg [ub s,.l l,.l b]] ∧ u = ub (qKb s l b)
theorem j1w : q0w Tryz.prog 131 j3l := sound [] q0v Tryz.func131 (by kernel_rfl) (by kernel_rfl) fun us u hR =>              ⟨0, fun C E hC => by
 obtain ⟨s,l,b,rfl,hu⟩ := hR
 unfold qKb at hu
 cases s
 ·by_cases h1 : cnt l = 0
  ·by_cases h2 : cnt b = 0 <;> cbv <;> (repeat ((first | refine ln fun _ _ _ => ?_ | refine tt ?_ | refine ff ?_ | with_reducible refine bq ?_); cbv)) <;> (rw [hu]; simp [h1,h2])
  ·cbv; (repeat ((first | refine ln fun _ _ _ => ?_ | refine ff ?_ | with_reducible refine bq ?_); cbv)); rw [hu]; simp [h1]
 ·cbv; (repeat ((with_reducible refine bq ?_); cbv)); rw [hu]; simp⟩
theorem kin {C : Orc} {E E' : Ent} (hE : qEx 0 [130] C [(130,Tryz.f130)] E E') {x i : Int} {b : Bool} (hb : kid x i = b) {o : Option Ob} {h : q1f} {k : U → q1f → Prop} (hk : k (ub b) (o :: some (.cells [ui i]) :: h)) :
  E' 130 [ui x,.ptr 1 0] (o :: some (.cells [ui i]) :: h) k := by
 refine hE _ _ (List.mem_singleton.2 rfl) _ _ _ ?_
 unfold kid at hb
 by_cases h1 : 0 ≤ x
 ·by_cases h2 : x < i
  ·have : b = true := by rw [← hb]; simp [h1,h2]
   subst this
   cbv; (repeat ((refine tt ?_); cbv)); exact hk
  ·have : b = false := by rw [← hb]; simp [h2]
   subst this
   cbv; (repeat ((first | refine tt ?_ | refine ff ?_); cbv)); exact hk
 ·have : b = false := by rw [← hb]; simp [h1]
  subst this
  cbv; (repeat ((refine ff ?_); cbv)); exact hk
def qRj (us : List U) (u : U) : Prop := ∃ t i,LB t.q ∧ us = [.agg (tU t),ui i] ∧ u = ub (q1n t i)
theorem qYj : q0w Tryz.prog 104 qRj := j1c [(86, q3p), (131, j3l)] [(130, Tryz.f130)] (q0c q8m (q0c j1w q0v)) (q8a Tryz.func130 (by kernel_rfl) (by kernel_rfl) qPk) (nd_of (by simp)) Tryz.func104 (by kernel_rfl) (by kernel_rfl) fun us u hR =>                                                    ⟨0, fun C E0 E1 E2 E hC hE1 hE2 hE => by
 obtain ⟨⟨k,a,b,n,s,l,d⟩,i,hq,rfl,hu⟩ := hR
 have k1 := hC 86 q3p (by simp) _ _ ⟨_,hq,rfl,rfl⟩
 have k2 := hC 131 j3l (by simp) _ _ ⟨s,l,d,rfl,rfl⟩
 clear hq hE1 hE2
 have hE : qEx 0 [130] C [(130,Tryz.f130)] E2 E := hE
 unfold q1n at hu
 dsimp only at hu k1
 generalize q1r (s,l,d) = g at hu k1
 generalize qKb s l d = w at hu k2
 cbv
 rcases Decidable.em (k = 1) with h1 | h1
 ·rw [if_pos h1] at hu
  rcases Decidable.em (a = 0 ∧ b = 0 ∧ n = 0) with h2 | h2
  ·rw [decide_eq_true h2,Bool.true_and] at hu
   (repeat ((first | refine tt ?_ | refine cl ?_ | refine tt ?_ (by and_intros <;> first | omega | exact True.intro)); cbv)); exact hu.symm
  ·rw [decide_eq_false h2,Bool.false_and] at hu
   (repeat ((first | refine tt ?_ | refine ff ?_); cbv)); exact hu.symm
 rw [if_neg h1] at hu
 cases w
 ·rw [Bool.false_and] at hu
  (repeat ((first | refine ff ?_ | with_reducible refine bq ?_ | refine cl ?_); cbv)); exact hu.symm
 rw [Bool.true_and] at hu
 rcases Decidable.em (k = 2) with h2 | h2
 ·rw [if_pos h2] at hu
  rcases Decidable.em (a = 0 ∧ b = 0) with h3 | h3
  ·rcases Decidable.em (0 ≤ n) with h4 | h4
   ·rw [decide_eq_true h3,decide_eq_true h4] at hu
    (repeat ((first | refine tt ?_ | refine ff ?_ | with_reducible refine bq ?_ | refine cl ?_ | refine tt ?_ (by and_intros <;> first | omega | exact True.intro)); cbv)); exact hu.symm
   ·rw [decide_eq_true h3,decide_eq_false h4] at hu
    (repeat ((first | refine tt ?_ | refine ff ?_ | with_reducible refine bq ?_ | refine cl ?_ | refine tt ?_ (by and_intros <;> first | omega | exact True.intro)); cbv)); exact hu.symm
  ·rw [decide_eq_false h3,Bool.false_and] at hu
   (repeat ((first | refine tt ?_ | refine ff ?_ | with_reducible refine bq ?_ | refine cl ?_); cbv)); exact hu.symm
 rw [if_neg h2] at hu
 generalize ha : kid a i = ka at hu
 generalize hb : kid b i = kb at hu
 rcases Decidable.em (k = 7) with h7 | h7
 ·rw [if_pos h7] at hu
  rcases Decidable.em (b = 0 ∧ n = 0) with h3 | h3
  ·rw [decide_eq_true h3,Bool.true_and] at hu
   (repeat ((first | refine tt ?_ | refine ff ?_ | with_reducible refine bq ?_ | refine cl ?_ | refine tt ?_ (by and_intros <;> first | omega | exact True.intro)); cbv)); refine kin hE ha ?_; cbv; (repeat ((first | refine ln fun _ _ _ => ?_ | refine tt ?_ | refine ff ?_ | refine wr fun _ _ => ?_ | refine rp fun _ _ _ => ?_ | with_reducible refine bq ?_ | refine cl ?_ | refine sd ?_ | refine tt ?_ (by and_intros <;> omega) | refine ff ?_ (by simp; omega) | intro _ _); cbv)); exact hu.symm
  ·rw [decide_eq_false h3,Bool.false_and] at hu
   (repeat ((first | refine tt ?_ | refine ff ?_ | with_reducible refine bq ?_ | refine cl ?_); cbv)); exact hu.symm
 rw [if_neg h7] at hu
 rcases Decidable.em (k = 8) with h8 | h8
 ·rw [if_pos h8] at hu
  rcases Decidable.em (b = 0) with h3 | h3
  ·rw [decide_eq_true h3,Bool.true_and] at hu
   cases ka
   ·rw [Bool.false_and,Bool.false_and] at hu
    (repeat ((first | refine tt ?_ | refine ff ?_ | with_reducible refine bq ?_ | refine cl ?_ | refine tt ?_ (by and_intros <;> first | omega | exact True.intro)); cbv)); refine kin hE ha ?_; cbv; (repeat ((first | refine ln fun _ _ _ => ?_ | refine tt ?_ | refine ff ?_ | refine wr fun _ _ => ?_ | refine rp fun _ _ _ => ?_ | with_reducible refine bq ?_ | refine cl ?_ | refine sd ?_ | refine tt ?_ (by and_intros <;> omega) | refine ff ?_ (by simp; omega) | intro _ _); cbv)); exact hu.symm
   ·rcases Decidable.em (-128 ≤ n) with h4 | h4
    ·rcases Decidable.em (n ≤ 128) with h5 | h5
     ·rw [decide_eq_true h4,decide_eq_true h5] at hu
      (repeat ((first | refine tt ?_ | refine ff ?_ | with_reducible refine bq ?_ | refine cl ?_ | refine tt ?_ (by and_intros <;> first | omega | exact True.intro)); cbv)); refine kin hE ha ?_; cbv; (repeat ((refine tt ?_); cbv)); exact hu.symm
     ·rw [decide_eq_true h4,decide_eq_false h5] at hu
      (repeat ((first | refine tt ?_ | refine ff ?_ | with_reducible refine bq ?_ | refine cl ?_ | refine tt ?_ (by and_intros <;> first | omega | exact True.intro)); cbv)); refine kin hE ha ?_; cbv; (repeat ((first | refine tt ?_ | refine ff ?_); cbv)); exact hu.symm
    ·rw [decide_eq_false h4,Bool.true_and,Bool.false_and] at hu
     (repeat ((first | refine tt ?_ | refine ff ?_ | with_reducible refine bq ?_ | refine cl ?_ | refine tt ?_ (by and_intros <;> first | omega | exact True.intro)); cbv)); refine kin hE ha ?_; cbv; (repeat ((refine ff ?_); cbv)); exact hu.symm
  ·rw [decide_eq_false h3,Bool.false_and,Bool.false_and,Bool.false_and] at hu
   (repeat ((first | refine tt ?_ | refine ff ?_ | with_reducible refine bq ?_ | refine cl ?_); cbv)); exact hu.symm
 rw [if_neg h8] at hu
 rcases Decidable.em (k = 3 ∨ k = 4 ∨ k = 5 ∨ k = 6) with h9 | h9
 ·rw [if_pos h9] at hu
  rcases Decidable.em (n = 0) with h3 | h3
  ·rw [decide_eq_true h3,Bool.true_and] at hu
   cases ka
   ·rw [Bool.false_and] at hu
    rcases h9 with h9 | h9 | h9 | h9 <;> ((repeat ((first | refine tt ?_ | refine ff ?_ | with_reducible refine bq ?_ | refine cl ?_); cbv)); refine kin hE ha ?_; cbv; (repeat ((first | refine ln fun _ _ _ => ?_ | refine tt ?_ | refine ff ?_ | refine wr fun _ _ => ?_ | refine rp fun _ _ _ => ?_ | with_reducible refine bq ?_ | refine cl ?_ | refine sd ?_ | refine tt ?_ (by and_intros <;> omega) | refine ff ?_ (by simp; omega) | intro _ _); cbv)); exact hu.symm)
   ·rw [Bool.true_and] at hu
    rcases h9 with h9 | h9 | h9 | h9 <;> ((repeat ((first | refine tt ?_ | refine ff ?_ | with_reducible refine bq ?_ | refine cl ?_); cbv)); refine kin hE ha ?_; cbv; (repeat ((first | refine ln fun _ _ _ => ?_ | refine tt ?_ | refine ff ?_ | refine wr fun _ _ => ?_ | refine rp fun _ _ _ => ?_ | with_reducible refine bq ?_ | refine cl ?_ | refine sd ?_ | refine tt ?_ (by and_intros <;> omega) | refine ff ?_ (by simp; omega) | intro _ _); cbv)); refine kin hE hb ?_; cbv; (repeat ((first | refine ln fun _ _ _ => ?_ | refine tt ?_ | refine ff ?_ | refine wr fun _ _ => ?_ | refine rp fun _ _ _ => ?_ | with_reducible refine bq ?_ | refine cl ?_ | refine sd ?_ | refine tt ?_ (by and_intros <;> omega) | refine ff ?_ (by simp; omega) | intro _ _); cbv)); exact hu.symm)
  ·rw [decide_eq_false h3,Bool.false_and,Bool.false_and] at hu
   rcases h9 with h9 | h9 | h9 | h9 <;> ((repeat ((first | refine tt ?_ | refine ff ?_ | with_reducible refine bq ?_ | refine cl ?_); cbv)); exact hu.symm)
 ·rw [if_neg h9] at hu
  (repeat ((first | refine ff ?_ | with_reducible refine bq ?_ | refine cl ?_); cbv)); exact hu.symm⟩
def q4j (c : List Tm) : Bool := (List.range c.length).all fun i => match c[i]? with
 | some t => q1n t i
 | none => true
theorem q1j {c : List Tm} : q4j c = true ↔ ∀ (i : Nat) t,c[i]? = some t → q1n t i = true := by
 unfold q4j
 rw [List.all_eq_true]
 constructor
 ·intro h i t ht
  have := h i (List.mem_range.2 (List.getElem?_eq_some_iff.1 ht).1)
  rw [ht] at this
  exact this
 ·intro h i hi
  cases ht : c[i]? with
  | none => rfl
  | some t => exact h i t ht
theorem q2l {α : Type} {c : List α} (f : α → List U) {i : Int} (h0 : 0 ≤ i) (h1 : i < cnt c) : ∃ t,c[i.toNat]? = some t ∧ (c.map f)[i.toNat]? = some (f t) := by
 unfold cnt at h1
 refine ⟨c[i.toNat]'(by omega),by simp,?_⟩
 rw [List.getElem?_map,List.getElem?_eq_getElem (by omega)]
 rfl
theorem q2r {α : Type} (c : List α) (f : α → List U) : cnt (c.map f) = cnt c := by unfold cnt; rw [List.length_map]
def qBx (us : List U) (u : U) : Prop := ∃ c,(∀ t ∈ c,LB t.q) ∧ cnt c ≤ 9223372036854775807 ∧ us = [cU c] ∧ u = ub (q4j c)
theorem qXu : q0w Tryz.prog 67 qBx := sound [(104,qRj)] (q0c qYj q0v) Tryz.func67 (by kernel_rfl) (by kernel_rfl) fun us u hR => by
 obtain ⟨c,hq,hn,rfl,hu⟩ := hR
 obtain ⟨r,hr⟩ : ∃ r,(cnt c).toNat < r := ⟨_,Nat.lt_succ_self _⟩
 refine ⟨r,fun C E hC => ?_⟩
 have kt : ∀ i t,0 ≤ i → c[i.toNat]? = some t → C 104 [.agg (tU t),ui i] (ub (q1n t i)) := fun i t h0 ht => hC 104 qRj (by simp) _ _ ⟨t,i,hq t (List.mem_of_getElem? ht),rfl,rfl⟩
 have hm := fun i (h0 : 0 ≤ i) (h1 : i < cnt c) => q2l (c := c) tU h0 h1
 have hc := q2r c tU
 have hc0 := q6s c
 unfold cU
 generalize c.map tU = xs at *
 cbv
 (repeat (((refine ln fun _ _ _ => ?_)); cbv))
 rename_i n hn1 hn0
 refine q4n [0,2,5,6,7] ?_
 cbv
 refine q2g (fun j a h => ∃ i : Int,0 ≤ i ∧ i ≤ cnt c ∧ j = (cnt c - i).toNat ∧ (∀ (x : Nat) t,(x : Int) < i → c[x]? = some t → q1n t x = true) ∧ a = [.s 7 xs,.lost,ub false,.lost,.lost,.s 7 xs,ui n,ui i,.lost,.lost,.lost,.lost,.lost,.lost,.lost,.lost,.lost] ∧ h = []) ?_ r (cnt c).toNat _ _ hr ⟨0,by omega,by omega,by omega,fun x t hx _ => absurd hx (by omega),rfl,rfl⟩
 rintro j a h K ⟨i,h0,h1,hj,hg,rfl,rfl⟩ hK
 rcases Decidable.em (i < cnt c) with hlt | hlt
 ·obtain ⟨t,ht,hx⟩ := hm i h0 hlt
  have k1 := kt i t h0 ht
  have hg' : q1n t i = true → ∀ (x : Nat) t,(x : Int) < i + 1 → c[x]? = some t → q1n t x = true := fun hb x t' hlx hx' => by
   by_cases e : (x : Int) = i
   ·have : x = i.toNat := by omega
    rw [this,ht] at hx'
    injection hx' with hx'
    rw [← hx',e]
    exact hb
   ·exact hg x t' (by omega) hx'
  have hg2 : q1n t i = false → q4j c = false := fun hb => by
   rw [Bool.eq_false_iff]
   intro hh
   have := q1j.1 hh i.toNat t ht
   rw [show ((i.toNat : Nat) : Int) = i by omega] at this
   rw [this] at hb
   cases hb
  generalize q1n t i = g at *
  obtain ⟨k,a,b,m,s,l,d⟩ := t
  cases g
  ·rw [hg2 rfl] at hu
   clear hg' hg2 hg
   cbv
   (repeat ((refine tt ?_); cbv))
   refine el ?_ (by omega) hx
   cbv
   (repeat ((first | with_reducible refine bq ?_ | refine cl ?_); cbv))
   exact hu.symm
  ·cbv
   (repeat ((refine tt ?_); cbv))
   refine el ?_ (by omega) hx
   cbv
   (repeat ((first | refine wr fun _ _ => ?_ | with_reducible refine bq ?_ | refine cl ?_); cbv))
   rename_i r1 e1
   refine q4n [0,2,5,6,7] ?_
   exact hK (cnt c - (i + 1)).toNat _ _ (by omega) ⟨i + 1,by omega,by omega,rfl,hg' rfl,by rw [e1]; rfl,rfl⟩
 ·rw [q1j.2 fun x t hx => hg x t (by have := (List.getElem?_eq_some_iff.1 hx).1; unfold cnt at h1 hlt; omega) hx] at hu
  clear hg
  cbv
  (repeat ((refine ff ?_); cbv))
  exact hu.symm
def q5z (t : Tm) : List Int := if t.k = 7 ∨ t.k = 8 then [t.a] else if t.k = 3 ∨ t.k = 4 ∨ t.k = 5 ∨ t.k = 6 then [t.a,t.b] else []
def j3x (t : Tm) : U := if q5z t = [] then q9j else .s 1 ((q5z t).map fun x => [ui x])
def kidsR (us : List U) (u : U) : Prop := ∃ t,us = [.agg (tU t)] ∧ u = j3x t
theorem j1r : q0w Tryz.prog 68 kidsR := sound [] q0v Tryz.func68 (by kernel_rfl) (by kernel_rfl) fun us u hR =>            ⟨0, fun C E hC => by
 obtain ⟨⟨k,a,b,n,s,l,d⟩,rfl,hu⟩ := hR
 unfold j3x q5z at hu
 dsimp only at hu
 cbv
 rcases Decidable.em (k = 7 ∨ k = 8) with h | h
 ·rw [if_pos h] at hu
  rcases h with h | h <;> ((repeat ((first | refine tt ?_ | refine ff ?_); cbv)); exact hu.symm)
 rw [if_neg h] at hu
 rcases Decidable.em (k = 3 ∨ k = 4 ∨ k = 5 ∨ k = 6) with h2 | h2
 ·rw [if_pos h2] at hu
  rcases h2 with h2 | h2 | h2 | h2 <;> ((repeat ((first | refine tt ?_ | refine ff ?_); cbv)); exact hu.symm)
 ·rw [if_neg h2] at hu
  (repeat ((refine ff ?_); cbv)); exact hu.symm⟩
def uB (s : List Bool) : Rows := s.map fun b => [ub b]
def qIp (s : List Bool) (ks : List Int) : List Bool := ks.foldl (fun s k => s.set k.toNat true) s
def qCb (c : List Tm) (j : Nat) : List Int := match c[j]? with
 | some t => q5z t
 | none => []
def qBm (c : List Tm) : Nat → List Bool → List Bool
 | 0,s => s
 | j + 1,s => qBm c j (if s[j]? = some true then qIp s (qCb c j) else s)
def q1m (c : List Tm) (i : Nat) : List Bool := qBm c (i + 1) ((List.replicate c.length false).set i true)
def q7x (c : List Tm) (i : Int) : Bool := decide (0 ≤ i) && decide (i < cnt c) && q4j c
def qAy (c : List Tm) (i : Int) : U := if q7x c i = true then .s 1 (uB (q1m c i.toNat)) else q9j
theorem q8v : ∀ (ks : List Int) (s : List Bool),(qIp s ks).length = s.length
 | [],_ => rfl
 | k :: ks,s => by
  show (qIp (s.set k.toNat true) ks).length = s.length
  rw [q8v ks,List.length_set]
theorem qOe (c : List Tm) : ∀ (j : Nat) (s : List Bool),(qBm c j s).length = s.length
 | 0,_ => rfl
 | j + 1,s => by
  unfold qBm
  rw [qOe c j]
  split
  ·exact q8v _ _
  ·rfl
def qTb (a b : U) : Prop := a = b ∨ (a = q9j ∧ ∃ k,b = .s k [])
def qPh : List U → List U → Prop
 | [],[] => True
 | a :: r,b :: q => qTb a b ∧ qPh r q
 | _,_ => False
theorem qLd {ok : Nat → Prop} {W : World} {m : Map} {a b : U} {v : Value} (h : qTb a b) (hr : Rep ok W m a v) : Rep ok W m b v := by
 rcases h with rfl | ⟨rfl,k,rfl⟩
 ·exact hr
 ·refine ⟨none,0,hr,Nat.le_refl _,.inl rfl⟩
theorem qEu {ok : Nat → Prop} {W : World} {m : Map} : ∀ {us ws : List U} {vs : List Value},qPh us ws → Reps ok W m us vs → Reps ok W m ws vs
 | [],[],[],_,_ => trivial
 | [],[],_ :: _,_,hr => hr.elim
 | a :: r,b :: q,v :: vs,h,hr => ⟨qLd h.1 hr.1,qEu h.2 hr.2⟩
 | _ :: _,_ :: _,[],_,hr => hr.elim
 | [],_ :: _,_,h,_ => h.elim
 | _ :: _,[],_,h,_ => h.elim
theorem j1k {P : Program} {f : FuncId} {R R' : List U → U → Prop} (hs : q0w P f R) (h : ∀ us u,R' us u → ∃ us' u',R us' u' ∧ qPh us us' ∧ qTb u' u) : q0w P f R' := fun us u hR => by
 obtain ⟨us',u',h1,h2,h3⟩ := h us u hR
 obtain ⟨hb,hc⟩ := hs us' u' h1
 refine ⟨hb,fun W S cs hr => ?_⟩
 exact (hc W S cs (qEu h2 hr)).mono fun e W' ⟨v,e1,e2,e3⟩ => ⟨v,e1,qLd h3 e2,e3⟩
theorem qPe : ∀ us : List U,qPh us us
 | [] => trivial
 | u :: us => ⟨.inl rfl,qPe us⟩
def qSn (us : List U) (u : U) : Prop := ∃ t,us = [.agg (tU t)] ∧ u = .s 1 ((q5z t).map fun x => [ui x])
theorem qYo : q0w Tryz.prog 68 qSn := j1k j1r fun us u ⟨t,h1,h2⟩ => by
 refine ⟨us,_,⟨t,h1,rfl⟩,qPe _,?_⟩
 rw [h2]
 unfold j3x
 split
 ·rename_i h
  rw [h]
  exact .inr ⟨rfl,1,rfl⟩
 ·exact .inl rfl
theorem q6b {t : Tm} {i : Int} (h : q1n t i = true) : ∀ k ∈ q5z t,0 ≤ k ∧ k < i := by
 unfold q1n qKb kid at h
 unfold q5z
 intro k hk
 split at hk
 ·rename_i h7
  have e1 : ¬ t.k = 1 := by omega
  have e2 : ¬ t.k = 2 := by omega
  rw [if_neg e1,if_neg e2] at h
  rw [List.mem_singleton] at hk
  subst hk
  rcases h7 with h7 | h7
  ·rw [if_pos h7] at h
   simp at h
   omega
  ·rw [if_neg (by omega),if_pos h7] at h
   simp at h
   omega
 ·split at hk
  ·rename_i h7 h3
   rw [if_neg (by omega),if_neg (by omega),if_neg (by omega),if_neg (by omega),if_pos h3] at h
   simp at h
   rcases List.mem_cons.1 hk with rfl | hk
   ·omega
   ·rw [List.mem_singleton.1 hk]
    omega
  ·cases hk
def to4 (a : R3) : R4 := (a.1,a.2.1,a.2.2,0)
def to3 (a : R4) : R3 := (a.1,a.2.1,a.2.2.1)
def qY (a : R3) : R3 := qEl (qEl a)
def at3 (l : List R3) (i : Int) : R3 := (l[i.toNat]?).getD q7a
def evT (vs xs : List R3) (t : Tm) : R4 :=
 if t.k = 1 then to4 (qY t.q)
 else if t.k = 2 then to4 (qY (at3 xs t.n))
 else if t.k = 3 then qDz (at3 vs t.a) (at3 vs t.b)
 else if t.k = 4 then qF (at3 vs t.a) (at3 vs t.b)
 else if t.k = 5 then qIn (at3 vs t.a) (at3 vs t.b)
 else if t.k = 6 then qCd (at3 vs t.a) (at3 vs t.b)
 else if t.k = 7 then to4 (qEl (at3 vs t.a))
 else qLm (at3 vs t.a) t.n
def qBy (c : List Tm) (xs : List R3) (nd : List Bool) (i : Nat) (p : List R3 × Int) : List R3 × Int :=
 if nd[i]? = some true then (match c[i]? with
  | some t => if (evT p.1 xs t).2.2.2 = 0 then (p.1.set i (to3 (evT p.1 xs t)),0) else (p.1,(evT p.1 xs t).2.2.2)
  | none => p) else p
def evN (c : List Tm) (xs : List R3) (nd : List Bool) : Nat → List R3 × Int
 | 0 => (List.replicate c.length q7a,0)
 | i + 1 => if (evN c xs nd i).2 = 0 then qBy c xs nd i (evN c xs nd i) else evN c xs nd i
def qLf (c : List Tm) (nd : List Bool) (n : Int) : Bool := (List.range c.length).all fun j => match c[j]? with
 | some t => !(nd[j]? == some true && decide (t.k = 2) && decide (n ≤ t.n))
 | none => true
def q6a (c : List Tm) (i : Int) (xs : List R3) : Bool := q7x c i && xs.all q1r && qLf c (q1m c i.toNat) (cnt xs)
def ofS (c : List Tm) (i : Int) (xs : List R3) : R4 :=
 if q6a c i xs = true then (if (evN c xs (q1m c i.toNat) (i.toNat + 1)).2 = 0 then to4 (at3 (evN c xs (q1m c i.toNat) (i.toNat + 1)).1 i) else bad (evN c xs (q1m c i.toNat) (i.toNat + 1)).2) else bad 1
theorem qPy (c : List Tm) (xs : List R3) (nd : List Bool) (i : Nat) (p : List R3 × Int) : (qBy c xs nd i p).1.length = p.1.length := by
 unfold qBy
 split
 ·split
  ·split
   ·exact List.length_set
   ·rfl
  ·rfl
 ·rfl
theorem qEv (c : List Tm) (xs : List R3) (nd : List Bool) : ∀ i,(evN c xs nd i).1.length = c.length
 | 0 => List.length_replicate
 | i + 1 => by
  unfold evN
  split
  ·rw [qPy,qEv]
  ·exact qEv c xs nd i
theorem qNl {c : List Tm} {xs : List R3} {nd : List Bool} {i : Nat} (h : (evN c xs nd i).2 ≠ 0) : ∀ j,evN c xs nd (i + j) = evN c xs nd i
 | 0 => rfl
 | j + 1 => by
  have e := qNl h j
  show evN c xs nd (i + j + 1) = _
  rw [evN,e,if_neg h]
theorem qAq {a : R3} (h : q1r a = true) : qY a = a := by
 obtain ⟨q,hq,rfl⟩ := q3c.1 h
 unfold qY qEl
 rw [if_pos h,q1b,if_pos (q2o ((q8w q).trans hq)),q1b,Rat.neg_neg]
theorem qDi : LB q7a := ⟨q0i.nil,q0i.nil,by decide,by decide⟩
theorem qKr (q : Rat) : LB (to3 (lim q)) := by
 unfold lim
 split
 ·rename_i h
  exact (q5f h).wide
 ·exact qDi
theorem qJf (a : R3) : LB (qEl a) := j0m.wide
theorem qBw (e : Int) : LB (to3 (bad e)) := qDi
theorem LB_add (a b : R3) : LB (to3 (qDz a b)) := by unfold qDz; split; exact qKr _; exact qBw _
theorem LB_sub (a b : R3) : LB (to3 (qF a b)) := by unfold qF; split; exact qKr _; exact qBw _
theorem LB_mul (a b : R3) : LB (to3 (qIn a b)) := by unfold qIn; split; exact qKr _; exact qBw _
theorem LB_div (a b : R3) : LB (to3 (qCd a b)) := by
 unfold qCd
 split
 ·split
  ·exact qBw _
  ·exact qKr _
 ·exact qBw _
theorem LB_pow (a : R3) (n : Int) : LB (to3 (qLm a n)) := by
 unfold qLm
 split
 ·split
  ·split
   ·exact qBw _
   ·exact qKr _
  ·exact qBw _
 ·exact qBw _
theorem LB_ev (vs xs : List R3) (t : Tm) : LB (to3 (evT vs xs t)) := by
 unfold evT
 repeat' split
 ·exact qJf _
 ·exact qJf _
 ·exact LB_add _ _
 ·exact LB_sub _ _
 ·exact LB_mul _ _
 ·exact LB_div _ _
 ·exact qJf _
 ·exact LB_pow _ _
theorem LB_at {l : List R3} (h : ∀ a ∈ l,LB a) (i : Int) : LB (at3 l i) := by
 unfold at3
 cases e : l[i.toNat]? with
 | none => exact qDi
 | some a => exact h a (List.mem_of_getElem? e)
theorem qDg (c : List Tm) (xs : List R3) (nd : List Bool) : ∀ i,∀ a ∈ (evN c xs nd i).1,LB a
 | 0,a,h => by
  rw [(List.mem_replicate.1 h).2]
  exact qDi
 | i + 1,a,h => by
  unfold evN at h
  split at h
  ·unfold qBy at h
   split at h
   ·split at h
    ·split at h
     ·rcases List.mem_or_eq_of_mem_set h with h | h
      ·exact qDg c xs nd i a h
      ·rw [h]
       exact LB_ev _ _ _
     ·exact qDg c xs nd i a h
    ·exact qDg c xs nd i a h
   ·exact qDg c xs nd i a h
  ·exact qDg c xs nd i a h
theorem uB_len (s : List Bool) : cnt (uB s) = cnt s := by unfold cnt uB; rw [List.length_map]
theorem uB_nth {s : List Bool} {k : Int} (h0 : 0 ≤ k) (h1 : k < cnt s) : ∃ b,s[k.toNat]? = some b ∧ (uB s)[k.toNat]? = some [ub b] := by
 unfold cnt at h1
 refine ⟨s[k.toNat]'(by omega),by simp,?_⟩
 unfold uB
 rw [List.getElem?_map,List.getElem?_eq_getElem (by omega)]
 rfl
theorem uB_set (s : List Bool) (k : Nat) (b : Bool) : (uB s).set k [ub b] = uB (s.set k b) := by unfold uB; rw [List.map_set]
theorem qTh {s : List Bool} {ks : List Int} {m : Int} {x : Int} (h0 : 0 ≤ m) (hx : ks[m.toNat]? = some x) : (qIp s (ks.take m.toNat)).set x.toNat true = qIp s (ks.take (m + 1).toNat) := by
 rw [show (m + 1).toNat = m.toNat + 1 by omega,List.take_add_one,hx]
 unfold qIp
 rw [List.foldl_append]
 rfl
theorem qPv {c : List Tm} {s : List Bool} {k : Int} {t : Tm} (h0 : 0 ≤ k) (h : s[k.toNat]? = some true) (ht : c[k.toNat]? = some t) : qBm c (k + 1).toNat s = qBm c k.toNat (qIp s (q5z t)) := by
 rw [show (k + 1).toNat = k.toNat + 1 by omega]
 rw [qBm,if_pos h,qCb,ht]
theorem qTw {c : List Tm} {s : List Bool} {k : Int} (h0 : 0 ≤ k) (h : s[k.toNat]? = some false) : qBm c (k + 1).toNat s = qBm c k.toNat s := by
 rw [show (k + 1).toNat = k.toNat + 1 by omega]
 conv => lhs; unfold qBm
 rw [if_neg (by rw [h]; simp)]
def q6n (us : List U) (u : U) : Prop := ∃ c i,(∀ t ∈ c,LB t.q) ∧ cnt c ≤ 1000000 ∧ us = [cU c,ui i] ∧ u = qAy c i
theorem qHw : q0w Tryz.prog 35 q6n := sound [(67,qBx),(68,qSn)] (q0c qXu (q0c qYo q0v)) Tryz.func35 (by kernel_rfl) (by kernel_rfl) fun us u hR => by
 obtain ⟨c,i,hq,hn,rfl,hu⟩ := hR
 obtain ⟨r,hr⟩ : ∃ r,(cnt c).toNat + 10 < r := ⟨_,Nat.lt_succ_self _⟩
 refine ⟨r,fun C E hC => ?_⟩
 have kg := hC 67 qBx (by simp) _ _ ⟨c,hq,by omega,rfl,rfl⟩
 have kt : ∀ t,C 68 [.agg (tU t)] (.s 1 ((q5z t).map fun x => [ui x])) := fun t => hC 68 qSn (by simp) _ _ ⟨t,rfl,rfl⟩
 have hm := fun i (h0 : 0 ≤ i) (h1 : i < cnt c) => q2l (c := c) tU h0 h1
 have hc := q2r c tU
 have hc0 := q6s c
 unfold qAy q7x at hu
 have hgood : q4j c = true → ∀ (k : Int) t,0 ≤ k → c[k.toNat]? = some t → ∀ x ∈ q5z t,0 ≤ x ∧ x < k := fun h k t h0 ht x hx => by
  have := q6b (q1j.1 h k.toNat t ht) x hx
  omega
 clear hC hq
 unfold cU at kg ⊢
 obtain ⟨uB,huB⟩ : ∃ f : List Bool → Rows,f = Rd.uB := ⟨_,rfl⟩
 have uB_len : ∀ s,cnt (uB s) = cnt s := fun s => by rw [huB]; exact Rd.uB_len s
 have uB_nth : ∀ {s : List Bool} {k : Int},0 ≤ k → k < cnt s → ∃ b,s[k.toNat]? = some b ∧ (uB s)[k.toNat]? = some [ub b] := fun {s k} h0 h1 => by rw [huB]; exact Rd.uB_nth h0 h1
 have uB_set : ∀ (s : List Bool) (k : Nat) (b : Bool),(uB s).set k [ub b] = uB (s.set k b) := fun s k b => by rw [huB]; exact Rd.uB_set s k b
 rw [← huB] at hu
 generalize c.map tU = xs at *
 generalize q4j c = g at *
 cbv
 rcases Decidable.em (0 ≤ i) with h1 | h1
 case inr =>
  rw [decide_eq_false h1,Bool.false_and,Bool.false_and,if_neg (by simp)] at hu
  (repeat ((refine tt ?_); cbv)); exact hu.symm
 rcases Decidable.em (i < cnt c) with h2 | h2
 case inr =>
  rw [decide_eq_false h2,Bool.and_false,Bool.false_and,if_neg (by simp)] at hu
  (repeat ((first | refine ln fun _ _ _ => ?_ | refine tt ?_ | refine ff ?_); cbv)); exact hu.symm
 cases g
 ·rw [Bool.and_false,if_neg (by simp)] at hu
  (repeat ((first | refine ln fun _ _ _ => ?_ | refine ff ?_ | with_reducible refine bq ?_ | refine cl ?_); cbv)); exact hu.symm
 rw [decide_eq_true h1,decide_eq_true h2,Bool.true_and,Bool.true_and,if_pos rfl] at hu
 have hgood := hgood rfl
 (repeat ((first | refine ln fun _ _ _ => ?_ | refine ff ?_ | refine rp fun _ _ _ => ?_ | with_reducible refine bq ?_ | refine cl ?_ | refine sd ?_); cbv))
 rename_i n0 hn0 hn0' n hn hn' rs hrs hrc
 refine el (us := [ub false]) ?_ (by omega) (by rw [hrs,List.getElem?_replicate,if_pos (by omega)])
 cbv
 refine se fun ys e hyc => ?_
 have e2 : ys = uB ((List.replicate c.length false).set i.toNat true) := by
  rw [e,hrs,← uB_set,huB]
  unfold Rd.uB
  rw [List.map_replicate]
  congr 2
  unfold cnt at hc hn
  omega
 have hnc : n = cnt c := by omega
 obtain ⟨s0,hs0⟩ : ∃ s0,s0 = (List.replicate c.length false).set i.toNat true := ⟨_,rfl⟩
 rw [← hs0] at e2
 clear e hrs hyc hrc
 subst e2
 cbv
 (repeat ((first | refine ln fun _ _ _ => ?_ | refine tt ?_ | refine ff ?_ | refine wr fun _ _ => ?_ | refine rp fun _ _ _ => ?_ | with_reducible refine bq ?_ | refine cl ?_ | refine sd ?_ | intro _ _); cbv))
 refine q4n [0,1,4,5,6] ?_
 cbv
 refine q2g (fun j a h => ∃ (k : Int) (s : List Bool),-1 ≤ k ∧ k ≤ i ∧ j = (k + 1).toNat ∧ cnt s = cnt c ∧ qBm c (k + 1).toNat s = q1m c i.toNat ∧ a = [.s 7 xs,ui i,.lost,.lost,q9j,.sl 0 n n 1,ui k,.lost,.lost,.lost,.lost,.lost,.lost,.lost,.lost,.lost,.lost,.lost,.lost,.lost,.lost,.lost,.lost,.lost,.lost,.lost,.lost,.lost,.lost,.lost,.lost,.lost,.lost,.lost,.lost,.lost,.lost,.lost,.lost,.lost,.lost,.lost,.lost,.lost,.lost,.lost,.lost,.lost,.lost,.lost,.lost,.lost,.lost] ∧ h = [some (.row 1 (uB s))]) ?_ r (i + 1).toNat _ _ (by omega) ⟨i,s0,by omega,by omega,rfl,by rw [hs0]; unfold cnt; rw [List.length_set,List.length_replicate],by rw [hs0,show (i + 1).toNat = i.toNat + 1 by omega]; rfl,rfl,rfl⟩
 rintro j a h K ⟨k,s,h3,h4,hj,hsc,hd,rfl,rfl⟩ hK
 rcases Decidable.em (0 ≤ k) with h5 | h5
 ·obtain ⟨b,hb,hx⟩ := uB_nth (s := s) h5 (by omega)
  cases b
  ·rw [qTw h5 hb] at hd
   cbv
   (repeat ((first | refine tt ?_ | refine sd ?_); cbv))
   refine el ?_ (by omega) hx
   cbv
   (repeat ((first | refine wr fun _ _ => ?_ | with_reducible refine bq ?_); cbv))
   rename_i k' hk'
   refine q4n [0,1,4,5,6] ?_
   refine hK k.toNat _ _ (by omega) ⟨k - 1,s,by omega,by omega,by omega,hsc,?_,by rw [hk']; rfl,rfl⟩
   rw [show k - 1 + 1 = k by omega]
   exact hd
  ·obtain ⟨t,ht,hx2⟩ := hm k h5 (by omega)
   rw [qPv h5 hb ht] at hd
   have k1 := kt t
   have hk := hgood k t h5 ht
   have hms := q8v
   have hkl : cnt (q5z t) ≤ 2 := by
    unfold q5z cnt
    split
    ·simp
    ·split <;> simp
   have hws := fun m (h0 : 0 ≤ m) (h1 : m < cnt (q5z t)) => q2l (c := q5z t) (fun x => [ui x]) h0 h1
   have hwc := q2r (q5z t) fun x => [ui x]
   have hkc := q6s (q5z t)
   generalize q5z t = ks at *
   generalize ks.map (fun x => [ui x]) = ws at *
   obtain ⟨tk,ta,tb,tn,ts,tl,td⟩ := t
   cbv
   (repeat ((first | refine tt ?_ | refine sd ?_); cbv))
   refine el ?_ (by omega) hx
   cbv
   (repeat ((with_reducible refine bq ?_); cbv))
   refine el ?_ (by omega) hx2
   cbv
   (repeat ((first | refine ln fun _ _ _ => ?_ | refine cl ?_); cbv))
   rename_i nk hnk hnk'
   refine q4n [0,1,4,5,6,42,43,44] ?_
   cbv
   refine q2g (fun j a h => ∃ m : Int,0 ≤ m ∧ m ≤ cnt ks ∧ j = (cnt ks - m).toNat ∧ a = [.s 7 xs,ui i,.lost,.lost,q9j,.sl 0 n n 1,ui k,.lost,.lost,.lost,.lost,.lost,.lost,.lost,.lost,.lost,.lost,.lost,.lost,.lost,.lost,.lost,.lost,.lost,.lost,.lost,.lost,.lost,.lost,.lost,.lost,.lost,.lost,.lost,.lost,.lost,.lost,.lost,.lost,.lost,.lost,.lost,.s 1 ws,ui nk,ui m,.lost,.lost,.lost,.lost,.lost,.lost,.lost,.lost] ∧ h = [some (.row 1 (uB (qIp s (ks.take m.toNat))))]) ?_ r (cnt ks).toNat _ _ (by omega) ⟨0,by omega,by omega,by omega,rfl,rfl⟩
   rintro j2 a h K2 ⟨m,m0,m1,hj2,rfl,rfl⟩ hK2
   rcases Decidable.em (m < cnt ks) with h6 | h6
   ·obtain ⟨x,hx3,hx4⟩ := hws m m0 h6
    have hxk := hk x (List.mem_of_getElem? hx3)
    have hsc2 : cnt (qIp s (ks.take m.toNat)) = cnt s := by unfold cnt; rw [q8v]
    obtain ⟨b,hb2,hx5⟩ := uB_nth (s := qIp s (ks.take m.toNat)) hxk.1 (by omega)
    have hnext := qTh (s := s) m0 hx3
    generalize qIp s (ks.take m.toNat) = s2 at *
    cbv
    (repeat ((refine tt ?_); cbv))
    refine el ?_ (by omega) hx4
    cbv
    (repeat ((refine sd ?_); cbv))
    refine el ?_ (by omega) hx5
    cbv
    refine se fun ys e hyc => ?_
    obtain ⟨s3,hs3⟩ : ∃ s3,s3 = qIp s (ks.take (m + 1).toNat) := ⟨_,rfl⟩
    have e2 : ys = uB s3 := by rw [e,hs3,← hnext,← uB_set]
    clear e hyc
    subst e2
    cbv
    (repeat (((refine wr fun _ _ => ?_)); cbv))
    rename_i m' hm'
    refine q4n [0,1,4,5,6,42,43,44] ?_
    exact hK2 (cnt ks - (m + 1)).toNat _ _ (by omega) ⟨m + 1,by omega,by omega,rfl,by rw [hm']; rfl,by subst hs3; rfl⟩
   ·have e3 : ks.take m.toNat = ks := List.take_of_length_le (by unfold cnt at h6 m1; omega)
    rw [e3]
    have hsc2 : cnt (qIp s ks) = cnt s := by unfold cnt; rw [q8v]
    generalize qIp s ks = s2 at *
    cbv
    (repeat ((first | refine ff ?_ | refine wr fun _ _ => ?_); cbv))
    rename_i k' hk'
    refine q4n [0,1,4,5,6] ?_
    refine hK k.toNat _ _ (by omega) ⟨k - 1,s2,by omega,by omega,by omega,by omega,?_,by rw [hk']; rfl,rfl⟩
    rw [show k - 1 + 1 = k by omega]
    exact hd
 ·rw [show (k + 1).toNat = 0 by omega] at hd
  unfold qBm at hd
  have hsl := uB_len s
  rw [← hd] at hu
  cbv
  (repeat ((first | refine ff ?_ | refine sd ?_ | intro _ _); cbv))
  rename_i ys e
  rw [hu,e,List.take_of_length_le (by unfold cnt at *; omega)]
theorem remR {a b : List Int} (ha : q0i a) (hb : q0i b) (h1 : cnt a ≤ 1000000) (h2 : cnt b ≤ 1000000) (hz : V b ≠ 0) : q2b.R [.l a,.l b] (.tup [.l (N (V a / V b)),.l (N (V a % V b)),ub true]) := by
 obtain ⟨k,hk⟩ := (qIy ha hb (by unfold cnt at h1; omega) (by unfold cnt at h2; omega)).rounds
 rw [if_neg hz] at hk
 exact ⟨k,_,_,_,_,_,rfl,hk,rfl⟩
def q9w (us : List U) (u : U) : Prop := ∃ s l b,q0i l ∧ q0i b ∧ cnt l ≤ 500000 ∧ cnt b ≤ 500000 ∧ us = [.agg [ub s,.l l],.l b] ∧ u = uR4 (if V b = 0 then bad 3 else lim (mkRat (Z s l) (V b)))
theorem qCl : q0w Tryz.prog 119 q9w := sound [(142, qFu), (133, q1a.R), (117, q2q.R), (141, q2b.R)] (q0c qPl (q0c q1a.sound (q0c q2q.sound (q0c q2b.sound q0v)))) Tryz.func119 (by kernel_rfl) (by kernel_rfl) fun us u hR =>                                                                      ⟨0, fun C E hC => by
 obtain ⟨s,l,b,hl,hb,c1,c2,rfl,hu⟩ := hR
 obtain ⟨s1,l1,k1,e1,e2⟩ := tI (hC 142 qFu (by simp) _ _ ⟨s,l,hl,by omega,rfl,rfl⟩)
 have k2 := hC 133 q1a.R (by simp) _ _ (trimR hb (by omega))
 have b1 := qPg hl
 have b2 := qPg hb
 rw [← qAm s l] at b1
 generalize Z s l = z at *
 generalize V b = B at *
 by_cases hz : B = 0
 ·subst hz
  rw [if_pos rfl] at hu
  have e0 : cnt (N 0) = 0 := by rw [q2i,q8s]; rfl
  generalize N 0 = l2 at *
  clear e1 e2
  cbv
  (repeat ((first | refine ln fun _ _ _ => ?_ | refine tt ?_ | refine cl ?_); cbv))
  rw [hu]; rfl
 rw [if_neg hz] at hu
 have hg : 0 < Nat.gcd z.natAbs B := Nat.gcd_pos_of_pos_right _ (by omega)
 obtain ⟨p1,p2,p3⟩ := q6f z B hz
 have hgb : len (Nat.gcd z.natAbs B) ≤ len B := q2h (Nat.gcd_le_right _ (by omega))
 have k3 := hC 117 q2q.R (by simp) _ _ (gcdR (a := l1) (e2 ▸ q0t _) (q0t B) (by rw [e2,q2i]; omega) (by rw [q2i]; omega))
 have v1 : V l1 = z.natAbs := by rw [e2,V_N]
 have q1 : cnt l1 = len z.natAbs := by rw [e2,q2i]
 have q2 : cnt (N B) = len B := q2i _
 rw [v1,V_N] at k3
 have k4 := hC 141 q2b.R (by simp) _ _ (remR (a := l1) (e2 ▸ q0t _) (q0t (Nat.gcd z.natAbs B)) (by omega) (by rw [q2i]; omega) (by rw [V_N]; omega))
 have k5 := hC 141 q2b.R (by simp) _ _ (remR (q0t B) (q0t (Nat.gcd z.natAbs B)) (by omega) (by rw [q2i]; omega) (by rw [V_N]; omega))
 rw [v1,V_N,← p1] at k4
 rw [V_N,V_N,← p2] at k5
 have r1 : 0 < cnt (N B) := by have : len B ≠ 0 := fun h => hz (q3m.1 h); omega
 rw [← p3] at e1
 have hs1 : s1 = (q0x (mkRat z B)).1 := e1
 have n1 : cnt (N (mkRat z B).num.natAbs) = len (mkRat z B).num.natAbs := q2i _
 have n2 : cnt (N (mkRat z B).den) = len (mkRat z B).den := q2i _
 have hu2 : u = if len (mkRat z B).num.natAbs ≤ 64 ∧ len (mkRat z B).den ≤ 64 then .tup [.agg [ub s1,.l (N (mkRat z B).num.natAbs),.l (N (mkRat z B).den)],ui 0] else .tup [.agg [ub false,.l [],.l []],ui 2] := by
  rw [hu,hs1]
  unfold lim fits
  by_cases h : len (mkRat z B).num.natAbs ≤ 64 ∧ len (mkRat z B).den ≤ 64
  ·rw [if_pos h,if_pos (by simpa using h)]; rfl
  ·rw [if_neg h,if_neg (by simpa using h)]; rfl
 clear hu hs1 e1 e2 p1 p2 p3 hg hgb v1 b1 b2 q1 q2 hb hl
 generalize len (mkRat z B).num.natAbs = x1 at *
 generalize len (mkRat z B).den = x2 at *
 generalize N (mkRat z B).num.natAbs = l3 at *
 generalize N (mkRat z B).den = l4 at *
 generalize N B = l5 at *
 generalize N (Nat.gcd z.natAbs B) = l6 at *
 generalize N (z.natAbs % Nat.gcd z.natAbs B) = l7 at *
 generalize N (B % Nat.gcd z.natAbs B) = l8 at *
 by_cases h1 : cnt l3 ≤ 64
 ·by_cases h2 : cnt l4 ≤ 64
  ·rw [if_pos (by omega)] at hu2
   cbv; (repeat ((first | refine ln fun _ _ _ => ?_ | refine ff ?_ | refine cl ?_); cbv)); exact hu2.symm
  ·rw [if_neg (by omega)] at hu2
   cbv; (repeat ((first | refine ln fun _ _ _ => ?_ | refine tt ?_ | refine ff ?_ | refine cl ?_); cbv)); exact hu2.symm
 ·rw [if_neg (by omega)] at hu2
  cbv; (repeat ((first | refine ln fun _ _ _ => ?_ | refine tt ?_ | refine ff ?_ | refine cl ?_); cbv)); exact hu2.symm⟩
theorem q7y {p : Rat} (hp : fits p = true) : ∃ s l b,q0x p = (s,l,b) ∧ q0i l ∧ q0i b ∧ cnt l ≤ 64 ∧ cnt b ≤ 64 ∧ Z s l = p.num ∧ V b = p.den ∧ V l = p.num.natAbs ∧ s = decide (p.num < 0) := by
 obtain ⟨h1,h2⟩ := q2w hp
 exact ⟨_,_,_,rfl,q0t _,q0t _,by rw [q2i]; omega,by rw [q2i]; omega,qLr p,qHn p,V_N _,rfl⟩
def qGf (us : List U) (u : U) : Prop := ∃ s1 l1 b1 s2 l2 b2,q0i l1 ∧ q0i b2 ∧ cnt l1 ≤ 100000 ∧ cnt b2 ≤ 100000 ∧ us = [.agg [ub s1,.l l1,.l b1],.agg [ub s2,.l l2,.l b2]] ∧ u = uI (Z s1 l1 * V b2)
theorem qPm : q0w Tryz.prog 121 qGf := sound [(123, qUg)] (q0c qUf q0v) Tryz.func121 (by kernel_rfl) (by kernel_rfl) fun us u hR =>                           ⟨0, fun C E hC => by
 obtain ⟨s1,l1,b1,s2,l2,b2,hl,hb,c1,c2,rfl,hu⟩ := hR
 obtain ⟨s,l,k1,e1,e2⟩ := tI (hC 123 qUg (by simp) _ _ ⟨s1,l1,false,b2,hl,hb,c1,c2,rfl,rfl⟩)
 rw [show Z false b2 = (V b2 : Int) by unfold Z; simp] at e1 e2
 cbv; (repeat ((refine cl ?_); cbv)); rw [hu, e1, e2]; rfl⟩
def q9q (us : List U) (u : U) : Prop := ∃ v : Int,-9223372036854775808 ≤ v ∧ v ≤ 9223372036854775807 ∧ us = [ui v] ∧ u = uR (q0x (v : Rat))
theorem qDv : q0w Tryz.prog 76 q9q := sound [(108, wOfR), (109, q3x.R)] (q0c wOf_ok (q0c q3x.sound q0v)) Tryz.func76 (by kernel_rfl) (by kernel_rfl) fun us u hR =>                                  ⟨0, fun C E hC => by
 obtain ⟨v,h0,h1,rfl,hu⟩ := hR
 obtain ⟨s,l,k1,e1,e2⟩ := tI (hC 108 wOfR (by simp) _ _ ⟨v,h0,h1,rfl,rfl⟩)
 obtain ⟨l2,k2,e3⟩ := tN (hC 109 q3x.R (by simp) _ _ (nofR 1 (by omega)))
 rw [qKo] at hu
 cbv; (repeat ((refine cl ?_); cbv)); rw [hu, e1, e2, e3]; rfl⟩
def qDs (us : List U) (u : U) : Prop := ∃ a : R3,LB a ∧ us = [uR a] ∧ u = uR (qEl a)
theorem qHe : q0w Tryz.prog 69 qDs := sound [(86, q3p), (105, j2g)] (q0c q8m (q0c j3h q0v)) Tryz.func69 (by kernel_rfl) (by kernel_rfl) fun us u hR =>                                    ⟨0, fun C E hC => by
 obtain ⟨⟨s,l,b⟩,ha,rfl,hu⟩ := hR
 have k1 := hC 86 q3p (by simp) _ _ ⟨_,ha,rfl,rfl⟩
 unfold qEl at hu
 by_cases h : q1r (s,l,b) = true
 ·rw [if_pos h] at hu
  rw [h] at k1
  obtain ⟨p,hp,hq⟩ := q3c.1 h
  obtain ⟨s',l',b',e,g1,g2,g3,g4,g5,g6,g7,g8⟩ := q7y hp
  rw [e] at hq
  injection hq with q1 q2
  injection q2 with q2 q3
  subst q1 q2 q3
  rw [← e,q1b] at hu
  have e4 : b = N p.den := by rw [← qHn,e]; unfold q0x at e; injection e with _ e; injection e with _ e; rw [← e,V_N]
  obtain ⟨s1,l1,k2,e1,e2⟩ := tI (hC 105 j2g (by simp) _ _ ⟨s,l,g1,by omega,rfl,rfl⟩)
  rw [g5] at e1 e2
  have hu' : u = .agg [ub s1,.l l1,.l b] := by
   rw [hu,e1,e2,e4]
   unfold uR q0x
   rw [Rat.neg_num,Rat.neg_den]
  clear hu e1 e2 e4 e g5 g6 g7 g8 h ha
  cbv; (repeat ((first | refine ln fun _ _ _ => ?_ | refine rp fun _ _ _ => ?_ | refine cp fun _ => ?_ | with_reducible refine bq ?_ | refine cl ?_ | refine sd ?_); cbv)); exact hu'.symm
 ·rw [if_neg h] at hu
  rw [Bool.eq_false_iff.2 h] at k1
  cbv; (repeat ((first | with_reducible refine bq ?_ | refine cl ?_); cbv)); rw [hu]; rfl⟩
theorem q6o (a : R4) : ∃ s l b e,uR4 a = .tup [.agg [ub s,.l l,.l b],ui e] ∧ (s,l,b,e) = a := ⟨_,_,_,_,rfl,rfl⟩
theorem qBn (e : Int) : uR4 (bad e) = .tup [.agg [ub false,.l [],.l []],ui e] := rfl
theorem q3u {s : Bool} {l b : List Int} (h : q1r (s,l,b) = true) : ∃ p : Rat,fits p = true ∧ qOf (s,l,b) = p ∧ q0i l ∧ q0i b ∧ cnt l ≤ 64 ∧ cnt b ≤ 64 ∧ Z s l = p.num ∧ V b = p.den ∧ V l = p.num.natAbs ∧ s = decide (p.num < 0) := by
 obtain ⟨p,hp,hq⟩ := q3c.1 h
 obtain ⟨s',l',b',e,g⟩ := q7y hp
 rw [e] at hq
 injection hq with q1 q2
 injection q2 with q2 q3
 subst q1 q2 q3
 exact ⟨p,hp,by rw [← e,q1b],g⟩
def qGi (f : R3 → R3 → R4) (us : List U) (u : U) : Prop := ∃ a b : R3,LB a ∧ LB b ∧ us = [uR a,uR b] ∧ u = uR4 (f a b)
theorem qTg : q0w Tryz.prog 89 (qGi qDz) := sound [(86, q3p), (121, qGf), (120, j2v), (122, q1k.R), (119, q9w)] (q0c q8m (q0c qPm (q0c j2w (q0c q1k.sound (q0c qCl q0v))))) Tryz.func89 (by kernel_rfl) (by kernel_rfl) fun us u hR =>                                                                         ⟨0, fun C E hC => by
 obtain ⟨⟨s1,l1,b1⟩,⟨s2,l2,b2⟩,ha,hb,rfl,hu⟩ := hR
 have k1 := hC 86 q3p (by simp) _ _ ⟨_,ha,rfl,rfl⟩
 have k2 := hC 86 q3p (by simp) _ _ ⟨_,hb,rfl,rfl⟩
 clear ha hb
 unfold qDz at hu
 by_cases h1 : q1r (s1,l1,b1) = true
 case neg =>
  rw [Bool.eq_false_iff.2 h1] at k1 hu
  rw [Bool.false_and,if_neg (by simp),qBn] at hu
  cbv; (repeat ((first | with_reducible refine bq ?_ | refine cl ?_); cbv)); exact hu.symm
 by_cases h2 : q1r (s2,l2,b2) = true
 case neg =>
  rw [h1] at k1
  rw [Bool.eq_false_iff.2 h2] at k2 hu
  rw [Bool.and_false,if_neg (by simp),qBn] at hu
  cbv; (repeat ((first | with_reducible refine bq ?_ | refine cl ?_); cbv)); exact hu.symm
 rw [h1] at k1 hu
 rw [h2] at k2 hu
 rw [Bool.true_and,if_pos rfl] at hu
 obtain ⟨p,hp,e1,f1,f2,f3,f4,f5,f6,f7,f8⟩ := q3u h1
 obtain ⟨q,hq,e2,g1,g2,g3,g4,g5,g6,g7,g8⟩ := q3u h2
 rw [e1,e2] at hu
 have k3 := hC 121 qGf (by simp) _ _ ⟨s1,l1,b1,s2,l2,b2,f1,g2,by omega,by omega,rfl,rfl⟩
 have k4 := hC 121 qGf (by simp) _ _ ⟨s2,l2,b2,s1,l1,b1,g1,f2,by omega,by omega,rfl,rfl⟩
 rw [f5,g6] at k3
 rw [g5,f6] at k4
 obtain ⟨n1,n2⟩ := q2w hp
 obtain ⟨n3,n4⟩ := q2w hq
 have m1 := q5g p.num q.den
 have m2 := q5g q.num p.den
 have m3 := q4s p.den q.den
 have m4 := qIh (p.num * q.den) (q.num * p.den)
 rw [Int.natAbs_natCast] at m1 m2
 obtain ⟨s3,l3,k3,i1,i2⟩ := tI k3
 obtain ⟨s4,l4,k4,i3,i4⟩ := tI k4
 have z1 : Z s3 l3 = p.num * q.den := by rw [i1,i2]; exact Z_I _
 have z2 : Z s4 l4 = q.num * p.den := by rw [i3,i4]; exact Z_I _
 obtain ⟨s5,l5,k5,i5,i6⟩ := tI (hC 120 j2v (by simp) _ _ ⟨s3,l3,s4,l4,i2 ▸ q0t _,i4 ▸ q0t _,by rw [i2,q2i]; omega,by rw [i4,q2i]; omega,rfl,rfl⟩)
 rw [z1,z2] at i5 i6
 have k6 := hC 122 q1k.R (by simp) _ _ (mulR f2 g2 (by omega) (by omega))
 rw [f6,g6] at k6
 obtain ⟨l6,k6,i7⟩ := tN k6
 have z3 : Z s5 l5 = p.num * q.den + q.num * p.den := by rw [i5,i6]; exact Z_I _
 have k7 := hC 119 q9w (by simp) _ _ ⟨s5,l5,l6,i6 ▸ q0t _,i7 ▸ q0t _,by rw [i6,q2i]; omega,by rw [i7,q2i]; omega,rfl,rfl⟩
 rw [z3,i7,V_N,if_neg (Nat.mul_ne_zero p.den_nz q.den_nz),← Rat.add_def',← i7,← hu] at k7
 obtain ⟨s7,l7,b7,e7,hu',_⟩ := q6o (lim (p + q))
 rw [← hu] at hu'
 rw [hu'] at k7
 clear hu i1 i2 i3 i4 i5 i6 i7 z1 z2 z3 m1 m2 m3 m4 n1 n2 n3 n4 e1 e2 f1 f2 f3 f4 f5 f6 f7 f8 g1 g2 g3 g4 g5 g6 g7 g8 h1 h2 hp hq
 cbv; (repeat ((first | with_reducible refine bq ?_ | refine cl ?_); cbv)); exact hu'.symm⟩
theorem j1v : q0w Tryz.prog 90 (qGi qF) := sound [(69, qDs), (89, qGi qDz)] (q0c qHe (q0c qTg q0v)) Tryz.func90 (by kernel_rfl) (by kernel_rfl) fun us u hR =>                                     ⟨0, fun C E hC => by
 obtain ⟨⟨s1,l1,b1⟩,⟨s2,l2,b2⟩,ha,hb,rfl,hu⟩ := hR
 obtain ⟨s3,l3,b3,k1,i1⟩ := tR (hC 69 qDs (by simp) _ _ ⟨_,hb,rfl,rfl⟩)
 have k2 := hC 89 (qGi qDz) (by simp) _ _ ⟨(s1,l1,b1),(s3,l3,b3),ha,i1 ▸ j0m.wide,rfl,rfl⟩
 rw [show qDz (s1,l1,b1) (s3,l3,b3) = qF (s1,l1,b1) (s2,l2,b2) by rw [i1,sub_eq],← hu] at k2
 obtain ⟨s7,l7,b7,e7,hu',_⟩ := q6o (qF (s1,l1,b1) (s2,l2,b2))
 rw [← hu] at hu'
 rw [hu'] at k2
 clear hu i1 ha hb
 cbv; (repeat ((refine cl ?_); cbv)); exact hu'.symm⟩
theorem j4f : q0w Tryz.prog 91 (qGi qIn) := sound [(86, q3p), (123, qUg), (122, q1k.R), (119, q9w)] (q0c q8m (q0c qUf (q0c q1k.sound (q0c qCl q0v)))) Tryz.func91 (by kernel_rfl) (by kernel_rfl) fun us u hR =>                                                            ⟨0, fun C E hC => by
 obtain ⟨⟨s1,l1,b1⟩,⟨s2,l2,b2⟩,ha,hb,rfl,hu⟩ := hR
 have k1 := hC 86 q3p (by simp) _ _ ⟨_,ha,rfl,rfl⟩
 have k2 := hC 86 q3p (by simp) _ _ ⟨_,hb,rfl,rfl⟩
 clear ha hb
 unfold qIn at hu
 by_cases h1 : q1r (s1,l1,b1) = true
 case neg =>
  rw [Bool.eq_false_iff.2 h1] at k1 hu
  rw [Bool.false_and,if_neg (by simp),qBn] at hu
  cbv; (repeat ((first | with_reducible refine bq ?_ | refine cl ?_); cbv)); exact hu.symm
 by_cases h2 : q1r (s2,l2,b2) = true
 case neg =>
  rw [h1] at k1
  rw [Bool.eq_false_iff.2 h2] at k2 hu
  rw [Bool.and_false,if_neg (by simp),qBn] at hu
  cbv; (repeat ((first | with_reducible refine bq ?_ | refine cl ?_); cbv)); exact hu.symm
 rw [h1] at k1 hu
 rw [h2] at k2 hu
 rw [Bool.true_and,if_pos rfl] at hu
 obtain ⟨p,hp,e1,f1,f2,f3,f4,f5,f6,f7,f8⟩ := q3u h1
 obtain ⟨q,hq,e2,g1,g2,g3,g4,g5,g6,g7,g8⟩ := q3u h2
 rw [e1,e2] at hu
 obtain ⟨n1,n2⟩ := q2w hp
 obtain ⟨n3,n4⟩ := q2w hq
 have m1 := q5g p.num q.num
 have m3 := q4s p.den q.den
 have k3 := hC 123 qUg (by simp) _ _ ⟨s1,l1,s2,l2,f1,g1,by omega,by omega,rfl,rfl⟩
 rw [f5,g5] at k3
 obtain ⟨s5,l5,k3,i5,i6⟩ := tI k3
 have k6 := hC 122 q1k.R (by simp) _ _ (mulR f2 g2 (by omega) (by omega))
 rw [f6,g6] at k6
 obtain ⟨l6,k6,i7⟩ := tN k6
 have z3 : Z s5 l5 = p.num * q.num := by rw [i5,i6]; exact Z_I _
 have k7 := hC 119 q9w (by simp) _ _ ⟨s5,l5,l6,i6 ▸ q0t _,i7 ▸ q0t _,by rw [i6,q2i]; omega,by rw [i7,q2i]; omega,rfl,rfl⟩
 rw [z3,i7,V_N,if_neg (Nat.mul_ne_zero p.den_nz q.den_nz),← Rat.mul_def',← i7,← hu] at k7
 obtain ⟨s7,l7,b7,e7,hu',_⟩ := q6o (lim (p * q))
 rw [← hu] at hu'
 rw [hu'] at k7
 clear hu i5 i6 i7 z3 m1 m3 n1 n2 n3 n4 e1 e2 f1 f2 f3 f4 f5 f6 f7 f8 g1 g2 g3 g4 g5 g6 g7 g8 h1 h2 hp hq
 cbv; (repeat ((first | with_reducible refine bq ?_ | refine cl ?_); cbv)); exact hu'.symm⟩
theorem qXt (z : Int) (s : Bool) (l : List Int) (q : Rat) (hs : s = decide (z < 0)) (hl : l = N z.natAbs) : Z (s != decide (q.num < 0)) l = if q.num < 0 then -z else z := by
 unfold Z
 rw [hl,V_N,hs]
 by_cases z1 : z < 0 <;> by_cases z2 : q.num < 0 <;> simp [z1,z2] <;> omega
theorem qSb : q0w Tryz.prog 92 (qGi qCd) := sound [(86, q3p), (121, qGf), (122, q1k.R), (119, q9w)] (q0c q8m (q0c qPm (q0c q1k.sound (q0c qCl q0v)))) Tryz.func92 (by kernel_rfl) (by kernel_rfl) fun us u hR =>                                                              ⟨0, fun C E hC => by
 obtain ⟨⟨s1,l1,b1⟩,⟨s2,l2,b2⟩,ha,hb,rfl,hu⟩ := hR
 have k1 := hC 86 q3p (by simp) _ _ ⟨_,ha,rfl,rfl⟩
 have k2 := hC 86 q3p (by simp) _ _ ⟨_,hb,rfl,rfl⟩
 clear ha hb
 unfold qCd at hu
 by_cases h1 : q1r (s1,l1,b1) = true
 case neg =>
  rw [Bool.eq_false_iff.2 h1] at k1 hu
  rw [Bool.false_and,if_neg (by simp),qBn] at hu
  cbv; (repeat ((first | with_reducible refine bq ?_ | refine cl ?_); cbv)); exact hu.symm
 by_cases h2 : q1r (s2,l2,b2) = true
 case neg =>
  rw [h1] at k1
  rw [Bool.eq_false_iff.2 h2] at k2 hu
  rw [Bool.and_false,if_neg (by simp),qBn] at hu
  cbv; (repeat ((first | with_reducible refine bq ?_ | refine cl ?_); cbv)); exact hu.symm
 rw [h1] at k1 hu
 rw [h2] at k2 hu
 rw [Bool.true_and,if_pos rfl] at hu
 obtain ⟨p,hp,e1,f1,f2,f3,f4,f5,f6,f7,f8⟩ := q3u h1
 obtain ⟨q,hq,e2,g1,g2,g3,g4,g5,g6,g7,g8⟩ := q3u h2
 rw [e1,e2] at hu
 have k3 := hC 121 qGf (by simp) _ _ ⟨s1,l1,b1,s2,l2,b2,f1,g2,by omega,by omega,rfl,rfl⟩
 rw [f5,g6] at k3
 obtain ⟨n1,n2⟩ := q2w hp
 obtain ⟨n3,n4⟩ := q2w hq
 have m1 := q5g p.num q.den
 have m3 := q4s p.den q.num.natAbs
 rw [Int.natAbs_natCast] at m1
 obtain ⟨s3,l3,k3,i1,i2⟩ := tI k3
 have k6 := hC 122 q1k.R (by simp) _ _ (mulR f2 g1 (by omega) (by omega))
 rw [f6,g7] at k6
 obtain ⟨l6,k6,i7⟩ := tN k6
 have k7 := hC 119 q9w (by simp) _ _ ⟨s3 != s2,l3,l6,i2 ▸ q0t _,i7 ▸ q0t _,by rw [i2,q2i]; omega,by rw [i7,q2i]; omega,rfl,rfl⟩
 have z3 := qXt (p.num * q.den) s3 l3 q i1 i2
 rw [← g8] at z3
 have hd : (if V l6 = 0 then bad 3 else lim (mkRat (Z (s3 != s2) l3) (V l6))) = (if q = 0 then bad 3 else lim (p / q)) := by
  rw [z3,i7,V_N]
  by_cases hz : q.num = 0
  ·have : q = 0 := Rat.num_eq_zero.1 hz
   rw [if_pos (by rw [hz]; simp),if_pos this]
  ·rw [if_neg (Nat.mul_ne_zero p.den_nz (by omega)),if_neg (show ¬ q = 0 from fun h => hz (by rw [h]; rfl)),j0z p q hz]
 rw [hd,← hu] at k7
 obtain ⟨s7,l7,b7,e7,hu',_⟩ := q6o (if q = 0 then bad 3 else lim (p / q))
 rw [← hu] at hu'
 rw [hu'] at k7
 clear hu hd i1 i2 i7 z3 m1 m3 n1 n2 n3 n4 e1 e2 f1 f2 f3 f4 f5 f6 f7 f8 g1 g2 g3 g4 g5 g6 g7 g8 h1 h2 hp hq
 cases s3 <;> cases s2 <;> cbv <;> (repeat ((first | with_reducible refine bq ?_ | refine cl ?_); cbv)) <;> exact hu'.symm⟩
theorem powR {a : List Int} (ha : q0i a) (h1 : cnt a ≤ 1000000) {n : Int} {e : Nat} (hn : n = e) (he : e ≤ 1000) : q1x.R [.l a,ui n] (.tup [.l (if len (V a ^ e) ≤ 256 then N (V a ^ e) else []),ub (decide (len (V a ^ e) ≤ 256))]) := by
 obtain ⟨k,hk⟩ := (qRi ha (by unfold cnt at h1; omega) e (by omega)).rounds
 subst hn
 by_cases h : len (V a ^ e) ≤ 256
 ·rw [if_pos h] at hk; rw [if_pos h,decide_eq_true h]; exact ⟨k,_,_,_,_,rfl,hk,rfl⟩
 ·rw [if_neg h] at hk; rw [if_neg h,decide_eq_false h]; exact ⟨k,_,_,_,_,rfl,hk,rfl⟩
theorem qTr (n : Int) : q1t.R [ui n,ui 128] (ub (decide (-128 ≤ n ∧ n ≤ 128))) := ⟨_,_,_,rfl,qIx n 128 (by omega) (by omega),rfl⟩
def qMx (us : List U) (u : U) : Prop := ∃ a : R3,LB a ∧ us = [uR a] ∧ u = uR4 (qCd (q0x 1) a)
theorem qVc : q0w Tryz.prog 125 qMx := sound [(76, q9q), (92, qGi qCd)] (q0c qDv (q0c qSb q0v)) Tryz.func125 (by kernel_rfl) (by kernel_rfl) fun us u hR =>                                            ⟨0, fun C E hC => by
 obtain ⟨⟨s2,l2,b2⟩,hb,rfl,hu⟩ := hR
 have k1 := hC 76 q9q (by simp) _ _ ⟨1,by omega,by omega,rfl,rfl⟩
 rw [show ((1 : Int) : Rat) = 1 from rfl] at k1
 have h1 : LB (q0x 1) := (q5f (by decide +kernel)).wide
 obtain ⟨s1,l1,b1,k1,e⟩ := tR k1
 rw [← e] at h1 hu
 have k2 := hC 92 (qGi qCd) (by simp) _ _ ⟨(s1,l1,b1),(s2,l2,b2),h1,hb,rfl,rfl⟩
 obtain ⟨s7,l7,b7,e7,hu',_⟩ := q6o (qCd (s1,l1,b1) (s2,l2,b2))
 rw [hu'] at k2 hu
 clear e h1 hb
 cbv; (repeat ((refine cl ?_); cbv)); exact hu.symm⟩
theorem turnS {p : Rat} (hp : fits p = true) : qCd (q0x 1) (q0x p) = if p = 0 then bad 3 else ((q0x p⁻¹).1,(q0x p⁻¹).2.1,(q0x p⁻¹).2.2,0) := by
 have k1 : fits (1 : Rat) = true := by decide +kernel
 unfold qCd
 rw [q2o k1,q2o hp,q1b,q1b]
 by_cases h : p = 0
 ·rw [if_pos h,if_pos h]
  rfl
 ·rw [if_neg h,if_neg h,Rat.div_def,Rat.one_mul]
  unfold lim
  rw [if_pos (q7v hp h)]
  rfl
def qNa (us : List U) (u : U) : Prop := ∃ (p : Rat) (e : Nat) (n : Int),fits p = true ∧ n = e ∧ 0 < n ∧ n ≤ 128 ∧ us = [uR (q0x p),ui n] ∧ u = uR4 (lim (p ^ e))
theorem qKa : q0w Tryz.prog 93 qNa := sound [(86, q3p), (124, q1t.R), (126, q1x.R), (119, q9w)] (q0c q8m (q0c q1t.sound (q0c q1x.sound (q0c qCl q0v)))) Tryz.func93 (by kernel_rfl) (by kernel_rfl) fun us u hR =>                                                                              ⟨0, fun C E hC => by
 obtain ⟨p,e,n,hp,hn,h0,h1,rfl,hu⟩ := hR
 have k1 := hC 86 q3p (by simp) _ _ ⟨_,(q5f hp).wide,rfl,rfl⟩
 rw [q2o hp] at k1
 have k2 := hC 124 q1t.R (by simp) _ _ (qTr n)
 rw [decide_eq_true (by omega)] at k2
 have sg := qOb p e (by omega) (by omega)
 rw [show Int.tmod (e : Int) 2 = Int.tmod n 2 by rw [hn]] at sg
 obtain ⟨s,l,b,eq,g1,g2,g3,g4,g5,g6,g7,g8⟩ := q7y hp
 rw [eq] at k1 sg ⊢
 have k3 := hC 126 q1x.R (by simp) _ _ (powR g1 (by omega) hn (by omega))
 have k4 := hC 126 q1x.R (by simp) _ _ (powR g2 (by omega) hn (by omega))
 rw [g7] at k3
 rw [g6] at k4
 by_cases hA : len (p.num.natAbs ^ e) ≤ 256
 case neg =>
  rw [if_neg hA,decide_eq_false hA] at k3
  rw [qTe p e (Or.inl hA)] at hu
  generalize (if len (p.den ^ e) ≤ 256 then N (p.den ^ e) else []) = l4 at *
  clear sg eq g1 g2 g3 g4 g5 g6 g7 g8 hn hp hA
  generalize decide (len (p.den ^ e) ≤ 256) = t4 at *
  cases t4 <;> cbv <;> (repeat ((first | refine ff ?_ | with_reducible refine bq ?_ | refine cl ?_); cbv)) <;> exact hu.symm
 by_cases hB : len (p.den ^ e) ≤ 256
 case neg =>
  rw [if_pos hA,decide_eq_true hA] at k3
  rw [if_neg hB,decide_eq_false hB] at k4
  rw [qTe p e (Or.inr hB)] at hu
  generalize N (p.num.natAbs ^ e) = l3 at *
  clear sg eq g1 g2 g3 g4 g5 g6 g7 g8 hn hp hA hB
  cbv; (repeat ((first | refine ff ?_ | with_reducible refine bq ?_ | refine cl ?_); cbv)); exact hu.symm
 rw [if_pos hA,decide_eq_true hA] at k3
 rw [if_pos hB,decide_eq_true hB] at k4
 have k5 := hC 119 q9w (by simp) _ _ ⟨s && (Int.tmod n 2 == 1),N (p.num.natAbs ^ e),N (p.den ^ e),q0t _,q0t _,by rw [q2i]; omega,by rw [q2i]; omega,rfl,rfl⟩
 rw [sg,V_N,if_neg (Nat.ne_of_gt (Nat.pow_pos (Nat.pos_of_ne_zero p.den_nz))),pow_mk,← hu] at k5
 obtain ⟨s7,l7,b7,e7,hu',_⟩ := q6o (lim (p ^ e))
 rw [← hu] at hu'
 rw [hu'] at k5
 have c4 : cnt (N (p.den ^ e)) ≤ 256 := by rw [q2i]; omega
 generalize N (p.num.natAbs ^ e) = l3 at *
 generalize N (p.den ^ e) = l4 at *
 clear hu sg eq g1 g2 g3 g4 g5 g6 g7 g8 hn hp hA hB
 by_cases ht : Int.tmod n 2 = 1
 ·rw [ht] at k5
  cases s <;> cbv <;> (repeat ((first | refine ln fun _ _ _ => ?_ | refine tt ?_ | refine ff ?_ | refine rp fun _ _ _ => ?_ | refine cp fun _ => ?_ | with_reducible refine bq ?_ | refine cl ?_ | refine sd ?_ | intro _ _); cbv)) <;> exact hu'.symm
 ·rw [show (Int.tmod n 2 == 1) = false by simpa using ht] at k5
  cases s <;> cbv <;> (repeat ((first | refine ln fun _ _ _ => ?_ | refine ff ?_ | refine rp fun _ _ _ => ?_ | refine cp fun _ => ?_ | with_reducible refine bq ?_ | refine cl ?_ | refine sd ?_ | intro _ _); cbv)) <;> exact hu'.symm⟩
def qPs (us : List U) (u : U) : Prop := ∃ (a : R3) (n : Int),LB a ∧ -9223372036854775808 ≤ n ∧ n ≤ 9223372036854775807 ∧ us = [uR a,ui n] ∧ u = uR4 (qLm a n)
theorem qYz : q0w Tryz.prog 93 qPs := by
 have main := sound (f := 93) (R := fun us u => ∃ (a : R3) (n : Int), LB a ∧ ¬ (q1r a = true ∧ 0 < n ∧ n ≤ 128) ∧ -9223372036854775808 ≤ n ∧ n ≤ 9223372036854775807 ∧ us = [uR a, ui n] ∧ u = uR4 (qLm a n)) [(86, q3p), (124, q1t.R), (76, q9q), (125, qMx), (93, qNa)] (q0c q8m (q0c q1t.sound (q0c qDv (q0c qVc (q0c qKa q0v))))) Tryz.func93 (by kernel_rfl) (by kernel_rfl) fun us u hR =>                                                                                       ⟨0, fun C E hC => by
  obtain ⟨⟨s,l,b⟩,n,ha,hno,h0,h1,rfl,hu⟩ := hR
  have k1 := hC 86 q3p (by simp) _ _ ⟨_,ha,rfl,rfl⟩
  have k2 := hC 124 q1t.R (by simp) _ _ (qTr n)
  unfold qLm at hu
  by_cases hg : q1r (s,l,b) = true
  case neg =>
   rw [if_neg hg] at hu
   rw [Bool.eq_false_iff.2 hg] at k1
   clear hno
   cbv; (repeat ((first | with_reducible refine bq ?_ | refine cl ?_); cbv)); exact hu.symm
  rw [if_pos hg] at hu
  rw [hg] at k1
  by_cases hw : -128 ≤ n ∧ n ≤ 128
  case neg =>
   rw [if_neg hw] at hu
   rw [decide_eq_false hw] at k2
   clear hno
   cbv; (repeat ((first | with_reducible refine bq ?_ | refine cl ?_); cbv)); exact hu.symm
  rw [if_pos hw] at hu
  rw [decide_eq_true hw] at k2
  by_cases hz : n = 0
  ·subst hz
   rw [if_neg (by omega),Rat.zpow_zero] at hu
   obtain ⟨s1,l1,b1,k3,e3⟩ := tR (hC 76 q9q (by simp) _ _ ⟨1,by omega,by omega,rfl,rfl⟩)
   rw [qHt (show fits 1 = true by decide +kernel),show (1 : Rat) = ((1 : Int) : Rat) from rfl,← e3] at hu
   clear hno
   cbv; (repeat ((first | refine tt ?_ | with_reducible refine bq ?_ | refine cl ?_); cbv)); exact hu.symm
  have hn : n < 0 := by
   rcases Int.lt_trichotomy n 0 with h | h | h
   ·exact h
   ·exact absurd h hz
   ·exact absurd ⟨hg,h,hw.2⟩ hno
  clear hno
  obtain ⟨p,hp,e1,hq⟩ := q3u hg
  have hr : (s,l,b) = q0x p := by
   obtain ⟨p',hp',hq'⟩ := q3c.1 hg
   rw [hq',← e1,hq',q1b]
  rw [e1] at hu
  have k3 := hC 125 qMx (by simp) _ _ ⟨(s,l,b),ha,rfl,rfl⟩
  rw [show qCd (q0x 1) (s,l,b) = if p = 0 then bad 3 else ((q0x p⁻¹).1,(q0x p⁻¹).2.1,(q0x p⁻¹).2.2,0) by rw [hr,turnS hp]] at k3
  by_cases hp0 : p = 0
  ·rw [if_pos ⟨hn,hp0⟩] at hu
   rw [if_pos hp0] at k3
   clear hr hp hq e1
   cbv; (repeat ((first | refine tt ?_ | refine ff ?_ | with_reducible refine bq ?_ | refine cl ?_); cbv)); exact hu.symm
  ·rw [if_neg (fun hh => hp0 hh.2)] at hu
   rw [if_neg hp0] at k3
   obtain ⟨e,hne⟩ : ∃ e : Nat,-n = (e : Int) := ⟨n.natAbs,by omega⟩
   have k4 := hC 93 qNa (by simp) _ _ ⟨p⁻¹,e,-n,q7v hp hp0,hne,by omega,by omega,rfl,rfl⟩
   rw [qNb,show (p ^ e)⁻¹ = p ^ n by rw [show n = -(e : Int) by omega,Rat.zpow_neg,Rat.zpow_natCast],← hu] at k4
   obtain ⟨s7,l7,b7,e7,hu',_⟩ := q6o (lim (p ^ n))
   rw [← hu] at hu'
   rw [hu'] at k4
   obtain ⟨s8,l8,b8,h8⟩ : ∃ s l b,q0x p⁻¹ = (s,l,b) := ⟨_,_,_,rfl⟩
   rw [h8] at k3 k4
   clear hu hr hp hq e1 h8 hne
   have k4 : ∀ r,r = -n → C 93 [.agg [ub s8,.l l8,.l b8],ui r] (U.tup [U.agg [ub s7,U.l l7,U.l b7],ui e7]) := fun r hr => by rw [hr]; exact k4
   cbv
   repeat ((first | refine tt ?_ | refine ff ?_ | refine cl ?_ | with_reducible refine bq ?_ | refine wr fun r hr => (have k5 := k4 r hr; ?_)); cbv)
   exact hu'.symm⟩
 intro us u hR
 obtain ⟨a,n,ha,h0,h1,rfl,rfl⟩ := hR
 by_cases hpos : q1r a = true ∧ 0 < n ∧ n ≤ 128
 ·refine qKa _ _ ?_
  obtain ⟨x1,x2,x3⟩ := hpos
  obtain ⟨p,hp,rfl⟩ := q3c.1 x1
  obtain ⟨e,rfl⟩ : ∃ e : Nat,n = (e : Int) := ⟨n.natAbs,by omega⟩
  refine ⟨p,e,e,hp,rfl,x2,x3,rfl,?_⟩
  unfold qLm
  rw [if_pos x1,if_pos ⟨by omega,x3⟩,if_neg (by omega),q1b,Rat.zpow_natCast]
 ·exact main _ _ ⟨a,n,ha,hpos,h0,h1,rfl,rfl⟩
def ownR (us : List U) (u : U) : Prop := ∃ a : R3,LB a ∧ us = [uR a] ∧ u = uR (qY a)
theorem own_ok : q0w Tryz.prog 88 ownR := sound [(69, qDs)] (q0c qHe q0v) Tryz.func88 (by kernel_rfl) (by kernel_rfl) fun us u hR =>                   ⟨0, fun C E hC => by
 obtain ⟨⟨s,l,d⟩,ha,rfl,hu⟩ := hR
 obtain ⟨s1,l1,d1,k1,i1⟩ := tR (hC 69 qDs (by simp) _ _ ⟨_,ha,rfl,rfl⟩)
 have k2 := hC 69 qDs (by simp) _ _ ⟨(s1,l1,d1),i1 ▸ qJf _,rfl,rfl⟩
 rw [show qEl (s1,l1,d1) = qY (s,l,d) by rw [i1]; rfl,← hu] at k2
 obtain ⟨s2,l2,d2,hu',_⟩ : ∃ s l b,u = .agg [ub s,.l l,.l b] ∧ True := ⟨_,_,_,hu,trivial⟩
 rw [hu'] at k2
 clear hu i1 ha
 cbv; (repeat ((refine cl ?_); cbv)); exact hu'.symm⟩
theorem q5i {c : List Tm} {nd : List Bool} {n : Int} : qLf c nd n = true ↔ ∀ (j : Nat) t,c[j]? = some t → nd[j]? = some true → t.k = 2 → t.n < n := by
 unfold qLf
 rw [List.all_eq_true]
 constructor
 ·intro h j t ht hb hk
  have := h j (List.mem_range.2 (List.getElem?_eq_some_iff.1 ht).1)
  rw [ht] at this
  simp only [hb,beq_self_eq_true,hk,decide_true,Bool.true_and,Bool.not_eq_true',decide_eq_false_iff_not] at this
  omega
 ·intro h j hj
  cases ht : c[j]? with
  | none => rfl
  | some t =>
   show (!(nd[j]? == some true && decide (t.k = 2) && decide (n ≤ t.n))) = true
   by_cases hb : nd[j]? = some true
   ·by_cases hk : t.k = 2
    ·have := h j t ht hb hk
     simp only [hb,beq_self_eq_true,hk,decide_true,Bool.true_and,Bool.not_eq_true',decide_eq_false_iff_not]
     omega
    ·simp [hk]
   ·simp [hb]
theorem q6l (c : List Tm) (i : Nat) : cnt (q1m c i) = cnt c := by unfold q1m cnt; rw [qOe,List.length_set,List.length_replicate]
theorem cnt_eq {α β : Type} {a : List α} {b : List β} (h : cnt a = cnt b) : a.length = b.length := by unfold cnt at h; omega
abbrev EnV (r : Nat) (C : Orc) (E E' : Ent) : Prop := qEx r [48,49,87,50] C [(48,Tryz.f48),(49,Tryz.f49),(87,Tryz.f87),(50,Tryz.f50)] E E'
theorem j3c {C : Orc} {E E' : Ent} {r : Nat} (hE : EnV r C E E')
  (kN : qNs C 35 q6n) (kG : qNs C 86 q3p) {c : List Tm} {i : Int} {xs : List R3} (hq : ∀ t ∈ c,LB t.q) (hn : cnt c ≤ 1000000) (hx : ∀ a ∈ xs,LB a) (hxn : cnt xs ≤ 1000000) (hr : (cnt c).toNat + (cnt xs).toNat + 10 < r) {k : U → q1f → Prop}
  (h1 : q6a c i xs = true → k (.tup [.ptr 2 0,ub true]) [some (.cells [ub false,.l [],.l []]),some (.row 3 ((List.replicate c.length q7a).map qU)),some (.cells [cU c,.s 1 (uB (q1m c i.toNat)),qsU xs,.sl 1 (cnt c) (cnt c) 3,ui 0])])
  (h2 : q6a c i xs = false → ∀ h,k (.tup [.v (.pointer none),ub false]) (some (.cells [ub false,.l [],.l []]) :: h)) : E' 48 [cU c,ui i,qsU xs] [some (.cells [ub false,.l [],.l []])] k := by
 refine hE 48 Tryz.f48 (by simp) _ _ _ ?_
 have k1 := kN _ _ ⟨c,i,hq,hn,rfl,rfl⟩
 have kg : ∀ (j : Int) a,0 ≤ j → xs[j.toNat]? = some a → C 86 [.agg (qU a)] (ub (q1r a)) := fun j a h0 ha => kG _ _ ⟨a,hx a (List.mem_of_getElem? ha),rfl,rfl⟩
 have hcn := fun i (h0 : 0 ≤ i) (h1 : i < cnt c) => q2l (c := c) tU h0 h1
 have hxm := fun i (h0 : 0 ≤ i) (h1 : i < cnt xs) => q2l (c := xs) qU h0 h1
 have hc := q2r c tU
 have hxc := q2r xs qU
 have hc0 := q6s c
 have hx0 := q6s xs
 have hnl := q6l c i.toNat
 unfold q6a at h1 h2
 unfold qAy at k1
 rw [List.map_replicate] at h1
 clear kN kG hx hq
 unfold cU qsU at *
 generalize c.map tU = cs at *
 generalize xs.map qU = ys at *
 cases hmc : q7x c i
 ·rw [hmc,if_neg (by simp)] at k1
  rw [hmc,Bool.false_and,Bool.false_and] at h2
  have h2 := h2 rfl
  clear h1
  cbv
  (repeat ((first | refine ln fun _ _ _ => ?_ | refine rp fun _ _ _ => ?_ | refine cl ?_ | refine sd ?_); cbv))
  exact h2 _
 rw [hmc,if_pos rfl] at k1
 rw [hmc,Bool.true_and] at h1 h2
 generalize q1m c i.toNat = nd at *
 have hnx := fun j (h0 : 0 ≤ j) (h1 : j < cnt nd) => uB_nth (s := nd) h0 h1
 have hnn : uB nd ≠ [] := by
  unfold q7x at hmc
  simp only [Bool.and_eq_true,decide_eq_true_eq] at hmc
  unfold uB
  intro h
  rw [List.map_eq_nil_iff] at h
  rw [h] at hnl
  have : cnt ([] : List Bool) = 0 := rfl
  omega
 generalize uB nd = nds at *
 obtain ⟨y,nds',hns⟩ := List.exists_cons_of_ne_nil hnn
 clear hnn
 obtain ⟨nd2,hnd2⟩ : ∃ nd2,nd2 = nds := ⟨_,rfl⟩
 rw [← hnd2] at h1 hnx
 subst hns
 cbv
 (repeat ((first | refine ln fun _ _ _ => ?_ | refine rp fun _ _ _ => ?_ | refine cl ?_ | refine sd ?_); cbv))
 rename_i n hn1 hn2 rs hrs hrc nx hx1 hx2
 refine q4n [0,2,8,28,29,30] ?_
 cbv
 refine q2g (fun j a h => ∃ q : Int,0 ≤ q ∧ q ≤ cnt xs ∧ j = (cnt xs - q).toNat ∧ (∀ (p : Nat) z,(p : Int) < q → xs[p]? = some z → q1r z = true) ∧ a = [.s 7 cs,.lost,.s 3 ys,.lost,.lost,.lost,.lost,.lost,.ptr 2 0,.lost,.lost,.lost,.lost,.lost,.lost,.lost,.lost,.lost,.lost,.lost,.lost,.lost,.lost,.lost,.lost,.lost,.lost,.lost,.s 3 ys,ui nx,ui q,.lost,.lost,.lost,.lost,.lost,.lost,.lost,.lost,.lost,.lost,.lost,.lost,.lost,.lost,.lost,.lost,.lost,.lost,.lost,.lost,.lost,.lost,.lost,.lost,.lost,.lost,.lost,.lost,.lost,.lost,.lost,.lost,.lost,.lost,.lost] ∧ h = [some (.cells [ub false,.l [],.l []]),some (.row 3 rs),some (.cells [.s 7 cs,.s 1 nd2,.s 3 ys,.sl 1 n n 3,ui 0])]) ?_ r (cnt xs).toNat _ _ (by omega) ⟨0,by omega,by omega,by omega,fun p z hp _ => absurd hp (by omega),rfl,by rw [hnd2]⟩
 rintro j a h K ⟨q,q0,q1,hj,hg,rfl,rfl⟩ hK
 rcases Decidable.em (q < cnt xs) with hlt | hlt
 ·obtain ⟨⟨s,l,d⟩,hz,hy⟩ := hxm q q0 hlt
  have k2 := kg q _ q0 hz
  have hg' : q1r (s,l,d) = true → ∀ (p : Nat) z,(p : Int) < q + 1 → xs[p]? = some z → q1r z = true := fun hb p z hp hz' => by
   by_cases e : (p : Int) = q
   ·have : p = q.toNat := by omega
    rw [this,hz] at hz'
    injection hz' with hz'
    rw [← hz']
    exact hb
   ·exact hg p z (by omega) hz'
  have hg2 : q1r (s,l,d) = false → xs.all q1r = false := fun hb => by
   rw [Bool.eq_false_iff,Ne,List.all_eq_true]
   intro hh
   rw [hh _ (List.mem_of_getElem? hz)] at hb
   cases hb
  generalize q1r (s,l,d) = g at k2 hg' hg2
  cases g
  ·rw [hg2 rfl,Bool.false_and] at h2
   have h2 := h2 rfl
   clear hg' hg2 hg h1
   cbv
   (repeat ((refine tt ?_); cbv))
   refine el ?_ (by omega) hy
   cbv
   (repeat ((first | with_reducible refine bq ?_ | refine cl ?_); cbv))
   exact h2 _
  ·clear hg2
   cbv
   (repeat ((refine tt ?_); cbv))
   refine el ?_ (by omega) hy
   cbv
   (repeat ((first | refine wr fun _ _ => ?_ | with_reducible refine bq ?_ | refine cl ?_); cbv))
   rename_i q' hq'
   refine q4n [0,2,8,28,29,30] ?_
   exact hK (cnt xs - (q + 1)).toNat _ _ (by omega) ⟨q + 1,by omega,by omega,rfl,hg' rfl,by rw [hq']; rfl,rfl⟩
 have hall : xs.all q1r = true := List.all_eq_true.2 fun z hz => by
  obtain ⟨p,hp,rfl⟩ := List.mem_iff_getElem.1 hz
  exact hg p _ (by unfold cnt at hlt; omega) (List.getElem?_eq_getElem hp)
 rw [hall,Bool.true_and] at h1 h2
 clear hg hall kg hxm
 cbv
 (repeat ((first | refine ln fun _ _ _ => ?_ | refine ff ?_); cbv))
 rename_i nc hnc1 hnc2
 refine q4n [0,2,8,38,39,40] ?_
 cbv
 refine q2g (fun j a h => ∃ q : Int,0 ≤ q ∧ q ≤ cnt c ∧ j = (cnt c - q).toNat ∧ (∀ (p : Nat) t,(p : Int) < q → c[p]? = some t → nd[p]? = some true → t.k = 2 → t.n < cnt xs) ∧ a = [.s 7 cs,.lost,.s 3 ys,.lost,.lost,.lost,.lost,.lost,.ptr 2 0,.lost,.lost,.lost,.lost,.lost,.lost,.lost,.lost,.lost,.lost,.lost,.lost,.lost,.lost,.lost,.lost,.lost,.lost,.lost,.lost,.lost,.lost,.lost,.lost,.lost,.lost,.lost,.lost,.lost,.s 7 cs,ui nc,ui q,.lost,.lost,.lost,.lost,.lost,.lost,.lost,.lost,.lost,.lost,.lost,.lost,.lost,.lost,.lost,.lost,.lost,.lost,.lost,.lost,.lost,.lost,.lost,.lost,.lost] ∧ h = [some (.cells [ub false,.l [],.l []]),some (.row 3 rs),some (.cells [.s 7 cs,.s 1 nd2,.s 3 ys,.sl 1 n n 3,ui 0])]) ?_ r (cnt c).toNat _ _ (by omega) ⟨0,by omega,by omega,by omega,fun p z hp _ => absurd hp (by omega),rfl,rfl⟩
 rintro j2 a h K2 ⟨q,q0,q1,hj2,hg,rfl,rfl⟩ hK2
 clear hK
 rcases Decidable.em (q < cnt c) with hlt | hlt
 ·obtain ⟨⟨kd,ta,tb,m,s,l,d⟩,ht,hy⟩ := hcn q q0 hlt
  obtain ⟨b,hb,hz⟩ := hnx q q0 (by omega)
  have hg' : (b = true → kd = 2 → m < cnt xs) → ∀ (p : Nat) t,(p : Int) < q + 1 → c[p]? = some t → nd[p]? = some true → t.k = 2 → t.n < cnt xs := fun hh p t hp ht' hb' hk => by
   by_cases e : (p : Int) = q
   ·have : p = q.toNat := by omega
    subst this
    rw [ht] at ht'
    injection ht' with ht'
    subst ht'
    rw [hb] at hb'
    injection hb' with hb'
    exact hh hb' hk
   ·exact hg p t (by omega) ht' hb' hk
  have hg2 : b = true → kd = 2 → ¬ m < cnt xs → qLf c nd (cnt xs) = false := fun e1 e2 e3 => by
   rw [Bool.eq_false_iff]
   intro hh
   exact e3 (q5i.1 hh q.toNat _ ht (by rw [hb,e1]) e2)
  clear hg hcn hnx ht hb
  cbv
  (repeat ((refine tt ?_); cbv))
  refine el ?_ (by omega) hy
  cbv
  (repeat ((first | refine ln fun _ _ _ => ?_ | refine tt ?_ | refine ff ?_ | refine wr fun _ _ => ?_ | refine rp fun _ _ _ => ?_ | with_reducible refine bq ?_ | refine cl ?_ | refine sd ?_ | intro _ _); cbv))
  refine el ?_ (by omega) hz
  clear hy hz
  cases b
  ·cbv
   (repeat (((refine wr fun _ _ => ?_)); cbv))
   rename_i q' hq'
   refine q4n [0,2,8,38,39,40] ?_
   exact hK2 (cnt c - (q + 1)).toNat _ _ (by omega) ⟨q + 1,by omega,by omega,rfl,hg' (fun e => by cases e),by rw [hq']; rfl,rfl⟩
  rcases Decidable.em (kd = 2) with h3 | h3
  ·rcases Decidable.em (m < cnt xs) with h4 | h4
   ·clear hg2
    cbv
    (repeat ((first | refine ln fun _ _ _ => ?_ | refine tt ?_ | refine ff ?_ | refine wr fun _ _ => ?_); cbv))
    rename_i q' hq'
    refine q4n [0,2,8,38,39,40] ?_
    exact hK2 (cnt c - (q + 1)).toNat _ _ (by omega) ⟨q + 1,by omega,by omega,rfl,hg' (fun _ _ => h4),by rw [hq']; rfl,rfl⟩
   ·have h2 := h2 (hg2 rfl h3 h4)
    clear hg2 hg' h1 hK2
    cbv
    (repeat ((first | refine ln fun _ _ _ => ?_ | refine tt ?_); cbv))
    exact h2 _
  ·clear hg2
   cbv
   (repeat ((first | refine ff ?_ | refine wr fun _ _ => ?_); cbv))
   rename_i q' hq'
   refine q4n [0,2,8,38,39,40] ?_
   exact hK2 (cnt c - (q + 1)).toNat _ _ (by omega) ⟨q + 1,by omega,by omega,rfl,hg' (fun _ e => absurd e h3),by rw [hq']; rfl,rfl⟩
 ·have h1 := h1 (q5i.2 fun p t ht hb hk => hg p t (by have := (List.getElem?_eq_some_iff.1 ht).1; unfold cnt at hlt; omega) ht hb hk)
  have hrs2 : rs = List.replicate c.length (qU q7a) := by
   rw [hrs]
   congr 1
   unfold cnt at hc hn1
   omega
  have hnc : n = cnt c := by omega
  rw [← hrs2,← hnc] at h1
  clear hg hcn hnx h2
  cbv
  (repeat ((refine ff ?_); cbv))
  exact h1
theorem q1v {t : Tm} {i : Int} (h : q1n t i = true) : t.k = 1 ∨ (t.k = 2 ∧ 0 ≤ t.n) ∨ ((t.k = 3 ∨ t.k = 4 ∨ t.k = 5 ∨ t.k = 6) ∧ (0 ≤ t.a ∧ t.a < i) ∧ 0 ≤ t.b ∧ t.b < i) ∨ (t.k = 7 ∧ 0 ≤ t.a ∧ t.a < i) ∨ (t.k = 8 ∧ (0 ≤ t.a ∧ t.a < i) ∧ -128 ≤ t.n ∧ t.n ≤ 128) := by
 unfold q1n qKb kid at h
 by_cases h1 : t.k = 1
 ·exact .inl h1
 rw [if_neg h1] at h
 by_cases h2 : t.k = 2
 ·rw [if_pos h2] at h
  simp at h
  exact .inr (.inl ⟨h2,by omega⟩)
 rw [if_neg h2] at h
 by_cases h7 : t.k = 7
 ·rw [if_pos h7] at h
  simp at h
  exact .inr (.inr (.inr (.inl ⟨h7,by omega,by omega⟩)))
 rw [if_neg h7] at h
 by_cases h8 : t.k = 8
 ·rw [if_pos h8] at h
  simp at h
  exact .inr (.inr (.inr (.inr ⟨h8,by omega,by omega⟩)))
 rw [if_neg h8] at h
 by_cases h9 : t.k = 3 ∨ t.k = 4 ∨ t.k = 5 ∨ t.k = 6
 ·rw [if_pos h9] at h
  simp at h
  exact .inr (.inr (.inl ⟨h9,by omega,by omega⟩))
 ·rw [if_neg h9] at h
  simp at h
theorem q7k {l : List R3} {i : Int} {a : R3} (h : l[i.toNat]? = some a) : at3 l i = a := by unfold at3; rw [h]; rfl
structure qNz (C : Orc) : Prop where
 o : qNs C 88 ownR
 a : qNs C 89 (qGi qDz)
 s : qNs C 90 (qGi qF)
 m : qNs C 91 (qGi qIn)
 d : qNs C 92 (qGi qCd)
 n : qNs C 69 qDs
 p : qNs C 93 qPs
theorem j1z {C : Orc} {E0 E1 E2 : Ent} {r : Nat} (h0 : EnV r C E0 E1) (hE : EnV r C E1 E2) (kT : qNz C) {t : Tm} {i : Int} {vs xs : List R3} {cs nds : Rows} {o : Ob} {n cn : Int} (ht : q1n t i = true) (hi : i ≤ cnt vs) (hr : t.k = 2 → t.n < cnt xs) (hn : n = cnt vs) (hq : LB t.q) (hv : ∀ a ∈ vs,LB a) (hx : ∀ a ∈ xs,LB a) (c0 : 0 ≤ cn) (c1 : cn ≤ 1000000) {k : U → q1f → Prop}
  (hk : ∀ z,z = cn + 1 → ∀ x1 x2,k (uR4 (evT vs xs t)) [some o,some (.row 3 (vs.map qU)),some (.cells [.s 7 cs,.s 1 nds,qsU xs,.sl 1 n n 3,ui z]),x1,x2]) : E2 49 [.ptr 2 0,.agg (tU t)] [some o,some (.row 3 (vs.map qU)),some (.cells [.s 7 cs,.s 1 nds,qsU xs,.sl 1 n n 3,ui cn])] k := by
 refine hE 49 Tryz.f49 (by simp) _ _ _ ?_
 have hvm := fun i (h0 : 0 ≤ i) (h1 : i < cnt vs) => q2l (c := vs) qU h0 h1
 have hxm := fun i (h0 : 0 ≤ i) (h1 : i < cnt xs) => q2l (c := xs) qU h0 h1
 have hc := q1v ht
 have hvL := fun a (h : a ∈ vs) => hv a h
 obtain ⟨kd,ta,tb,m,s,l,d⟩ := t
 dsimp only at hc hr hq
 unfold qsU at *
 generalize hvr : vs.map qU = vr at *
 generalize hxr : xs.map qU = xr at *
 clear ht hvr hxr
 cbv
 (repeat ((first | refine ln fun _ _ _ => ?_ | refine tt ?_ | refine ff ?_ | refine wr fun _ _ => ?_ | refine rp fun _ _ _ => ?_ | with_reducible refine bq ?_ | refine cl ?_ | refine sd ?_ | intro _ _); cbv))
 refine h0 87 Tryz.f87 (by simp) _ _ _ ?_
 cbv
 rcases hc with h | ⟨h,h2⟩ | ⟨h,h2,h3⟩ | ⟨h,h2⟩ | ⟨h,h2,h3⟩
 ·subst h
  obtain ⟨s7,l7,d7,k1,ek⟩ := tR (kT.o _ _ ⟨(s,l,d),hq,rfl,rfl⟩)
  rw [show evT vs xs ⟨1,ta,tb,m,(s,l,d)⟩ = (s7,l7,d7,0) by show to4 (qY (s,l,d)) = _; rw [← ek]; rfl] at hk
  clear ek kT hv hx hvm hxm hvL hq
  (repeat ((first | refine tt ?_ | refine wr fun _ _ => ?_ | refine cl ?_); cbv))
  exact hk _ (by assumption) _ _
 ·subst h
  obtain ⟨⟨s1,l1,d1⟩,v1,w1⟩ := hxm m h2 (hr rfl)
  obtain ⟨s7,l7,d7,k1,ek⟩ := tR (kT.o _ _ ⟨(s1,l1,d1),hx _ (List.mem_of_getElem? v1),rfl,rfl⟩)
  rw [show evT vs xs ⟨2,ta,tb,m,(s,l,d)⟩ = (s7,l7,d7,0) by show to4 (qY (at3 xs m)) = _; rw [q7k v1,← ek]; rfl] at hk
  clear ek kT hv hx hvm hxm hvL hq v1
  (repeat ((first | refine tt ?_ | refine ff ?_ | refine wr fun _ _ => ?_); cbv))
  refine el ?_ (by omega) w1
  cbv
  (repeat ((refine cl ?_); cbv))
  exact hk _ (by assumption) _ _
 ·obtain ⟨⟨s1,l1,d1⟩,v1,w1⟩ := hvm ta h2.1 (by omega)
  obtain ⟨⟨s2,l2,d2⟩,v2,w2⟩ := hvm tb h3.1 (by omega)
  rcases h with h | h | h | h
  ·subst h
   obtain ⟨s7,l7,d7,e7,k1,ek⟩ := tR4 (kT.a _ _ ⟨(s1,l1,d1),(s2,l2,d2),hv _ (List.mem_of_getElem? v1),hv _ (List.mem_of_getElem? v2),rfl,rfl⟩)
   rw [show evT vs xs ⟨3,ta,tb,m,(s,l,d)⟩ = (s7,l7,d7,e7) by show qDz (at3 vs ta) (at3 vs tb) = _; rw [q7k v1,q7k v2,ek]] at hk
   clear ek kT hv hx hvm hxm hvL hq v1 v2
   (repeat ((first | refine tt ?_ | refine ff ?_ | refine wr fun _ _ => ?_ | refine sd ?_); cbv))
   refine el ?_ (by omega) w1
   cbv
   (repeat ((refine sd ?_); cbv))
   refine el ?_ (by omega) w2
   cbv
   (repeat ((refine cl ?_); cbv))
   exact hk _ (by assumption) _ _
  ·subst h
   obtain ⟨s7,l7,d7,e7,k1,ek⟩ := tR4 (kT.s _ _ ⟨(s1,l1,d1),(s2,l2,d2),hv _ (List.mem_of_getElem? v1),hv _ (List.mem_of_getElem? v2),rfl,rfl⟩)
   rw [show evT vs xs ⟨4,ta,tb,m,(s,l,d)⟩ = (s7,l7,d7,e7) by show qF (at3 vs ta) (at3 vs tb) = _; rw [q7k v1,q7k v2,ek]] at hk
   clear ek kT hv hx hvm hxm hvL hq v1 v2
   (repeat ((first | refine tt ?_ | refine ff ?_ | refine wr fun _ _ => ?_ | refine sd ?_); cbv))
   refine el ?_ (by omega) w1
   cbv
   (repeat ((refine sd ?_); cbv))
   refine el ?_ (by omega) w2
   cbv
   (repeat ((refine cl ?_); cbv))
   exact hk _ (by assumption) _ _
  ·subst h
   obtain ⟨s7,l7,d7,e7,k1,ek⟩ := tR4 (kT.m _ _ ⟨(s1,l1,d1),(s2,l2,d2),hv _ (List.mem_of_getElem? v1),hv _ (List.mem_of_getElem? v2),rfl,rfl⟩)
   rw [show evT vs xs ⟨5,ta,tb,m,(s,l,d)⟩ = (s7,l7,d7,e7) by show qIn (at3 vs ta) (at3 vs tb) = _; rw [q7k v1,q7k v2,ek]] at hk
   clear ek kT hv hx hvm hxm hvL hq v1 v2
   (repeat ((first | refine tt ?_ | refine ff ?_ | refine wr fun _ _ => ?_ | refine sd ?_); cbv))
   refine el ?_ (by omega) w1
   cbv
   (repeat ((refine sd ?_); cbv))
   refine el ?_ (by omega) w2
   cbv
   (repeat ((refine cl ?_); cbv))
   exact hk _ (by assumption) _ _
  ·subst h
   obtain ⟨s7,l7,d7,e7,k1,ek⟩ := tR4 (kT.d _ _ ⟨(s1,l1,d1),(s2,l2,d2),hv _ (List.mem_of_getElem? v1),hv _ (List.mem_of_getElem? v2),rfl,rfl⟩)
   rw [show evT vs xs ⟨6,ta,tb,m,(s,l,d)⟩ = (s7,l7,d7,e7) by show qCd (at3 vs ta) (at3 vs tb) = _; rw [q7k v1,q7k v2,ek]] at hk
   clear ek kT hv hx hvm hxm hvL hq v1 v2
   (repeat ((first | refine tt ?_ | refine ff ?_ | refine wr fun _ _ => ?_ | refine sd ?_); cbv))
   refine el ?_ (by omega) w1
   cbv
   (repeat ((refine sd ?_); cbv))
   refine el ?_ (by omega) w2
   cbv
   (repeat ((refine cl ?_); cbv))
   exact hk _ (by assumption) _ _
 ·subst h
  obtain ⟨⟨s1,l1,d1⟩,v1,w1⟩ := hvm ta h2.1 (by omega)
  obtain ⟨s7,l7,d7,k1,ek⟩ := tR (kT.n _ _ ⟨(s1,l1,d1),hv _ (List.mem_of_getElem? v1),rfl,rfl⟩)
  rw [show evT vs xs ⟨7,ta,tb,m,(s,l,d)⟩ = (s7,l7,d7,0) by show to4 (qEl (at3 vs ta)) = _; rw [q7k v1,← ek]; rfl] at hk
  clear ek kT hv hx hvm hxm hvL hq v1
  (repeat ((first | refine tt ?_ | refine ff ?_ | refine wr fun _ _ => ?_ | refine sd ?_); cbv))
  refine el ?_ (by omega) w1
  cbv
  (repeat ((refine cl ?_); cbv))
  exact hk _ (by assumption) _ _
 ·subst h
  obtain ⟨⟨s1,l1,d1⟩,v1,w1⟩ := hvm ta h2.1 (by omega)
  obtain ⟨s7,l7,d7,e7,k1,ek⟩ := tR4 (kT.p _ _ ⟨(s1,l1,d1),m,hv _ (List.mem_of_getElem? v1),by omega,by omega,rfl,rfl⟩)
  rw [show evT vs xs ⟨8,ta,tb,m,(s,l,d)⟩ = (s7,l7,d7,e7) by show qLm (at3 vs ta) m = _; rw [q7k v1,ek]] at hk
  clear ek kT hv hx hvm hxm hvL hq v1
  (repeat ((first | refine ff ?_ | refine wr fun _ _ => ?_ | refine sd ?_); cbv))
  refine el ?_ (by omega) w1
  cbv
  (repeat ((refine cl ?_); cbv))
  exact hk _ (by assumption) _ _
theorem qKd {j : Nat} : ∀ {ks : List Int} {s : List Bool},s[j]? = some true → (qIp s ks)[j]? = some true
 | [],s,h => h
 | k :: ks,s,h => by
  show (qIp (s.set k.toNat true) ks)[j]? = some true
  refine qKd ?_
  rw [List.getElem?_set]
  split
  ·rename_i e
   have : j < s.length := (List.getElem?_eq_some_iff.1 h).1
   rw [if_pos (by omega)]
  ·exact h
theorem qDu {c : List Tm} {j : Nat} : ∀ {i : Nat} {s : List Bool},s[j]? = some true → (qBm c i s)[j]? = some true
 | 0,s,h => h
 | i + 1,s,h => by
  unfold qBm
  refine qDu ?_
  split
  ·exact qKd h
  ·exact h
theorem q5o {c : List Tm} {i : Int} (h0 : 0 ≤ i) (h1 : i < cnt c) : (q1m c i.toNat)[i.toNat]? = some true := by
 unfold q1m
 refine qDu ?_
 unfold cnt at h1
 rw [List.getElem?_set,if_pos rfl,if_pos (by rw [List.length_replicate]; omega)]
theorem ev_no {c : List Tm} {xs vs : List R3} {nd : List Bool} {q : Int} (h0 : 0 ≤ q) (h : evN c xs nd q.toNat = (vs,0)) (hb : nd[q.toNat]? = some false) : evN c xs nd (q + 1).toNat = (vs,0) := by
 rw [show (q + 1).toNat = q.toNat + 1 by omega,evN,h,if_pos rfl,qBy,hb,if_neg (by simp)]
theorem j0u {c : List Tm} {xs vs : List R3} {nd : List Bool} {q e : Int} {s : Bool} {l d : List Int} {t : Tm} (h0 : 0 ≤ q) (h : evN c xs nd q.toNat = (vs,0)) (hb : nd[q.toNat]? = some true) (ht : c[q.toNat]? = some t) (he : (s,l,d,e) = evT vs xs t) : evN c xs nd (q + 1).toNat = if e = 0 then (vs.set q.toNat (s,l,d),0) else (vs,e) := by
 rw [show (q + 1).toNat = q.toNat + 1 by omega,evN,h,if_pos rfl,qBy,if_pos hb,ht]
 simp only [← he]
 rfl
theorem j1b {c : List Tm} {xs vs : List R3} {nd : List Bool} {q i e : Int} (h0 : 0 ≤ q) (h1 : q ≤ i) (he : e ≠ 0) (h : evN c xs nd (q + 1).toNat = (vs,e)) : evN c xs nd (i.toNat + 1) = (vs,e) := by
 have := qNl (c := c) (xs := xs) (nd := nd) (i := (q + 1).toNat) (by rw [h]; exact he) (i - q).toNat
 rw [show (q + 1).toNat + (i - q).toNat = i.toNat + 1 by omega] at this
 rw [this,h]
def ofR (us : List U) (u : U) : Prop := ∃ c i xs,(∀ t ∈ c,LB t.q) ∧ cnt c ≤ 1000000 ∧ (∀ a ∈ xs,LB a) ∧ cnt xs ≤ 1000000 ∧ us = [cU c,ui i,qsU xs] ∧ u = uR4 (ofS c i xs)
theorem of_ok : q0w Tryz.prog 22 ofR := j1c [(35,q6n),(86,q3p),(88,ownR),(89,qGi qDz),(90,qGi qF),(91,qGi qIn),(92,qGi qCd),(69,qDs),(93,qPs)] [(48,Tryz.f48),(49,Tryz.f49),(87,Tryz.f87),(50,Tryz.f50)] (q0c qHw (q0c q8m (q0c own_ok (q0c qTg (q0c j1v (q0c j4f (q0c qSb (q0c qHe (q0c qYz q0v))))))))) (q8a Tryz.func48 (by kernel_rfl) (by kernel_rfl) (q8a Tryz.func49 (by kernel_rfl) (by kernel_rfl) (q8a Tryz.func87 (by kernel_rfl) (by kernel_rfl) (q8a Tryz.func50 (by kernel_rfl) (by kernel_rfl) qPk)))) (nd_of (by simp)) Tryz.func22 (by kernel_rfl) (by kernel_rfl) fun us u hR => by
 obtain ⟨c,i,xs,hq,hn,hx,hxn,rfl,hu⟩ := hR
 obtain ⟨r,hr⟩ : ∃ r,(cnt c).toNat + (cnt xs).toNat + 10 < r := ⟨_,Nat.lt_succ_self _⟩
 refine ⟨r,fun C E0 E1 E2 E hC hE0 hE1 hE2 => ?_⟩
 have hE1 : EnV r C E1 E2 := hE1
 have hE2 : EnV r C E2 E := hE2
 have kT : qNz C := ⟨hC 88 ownR (by simp),hC 89 (qGi qDz) (by simp),hC 90 (qGi qF) (by simp),hC 91 (qGi qIn) (by simp),hC 92 (qGi qCd) (by simp),hC 69 qDs (by simp),hC 93 qPs (by simp)⟩
 have hmade := fun k => j3c (k := k) hE2 (hC 35 q6n (by simp)) (hC 86 q3p (by simp)) (i := i) hq hn hx hxn hr
 have hterm := fun (q : Int) t vs (o : Ob) nds n cn (ht : c[q.toNat]? = some t) => j1z (cs := c.map tU) (o := o) (nds := nds) (n := n) (cn := cn) hE1 hE2 kT (t := t) (i := q) (vs := vs) (xs := xs)
 have hload := hE2 50 Tryz.f50 (by simp)
 have hcn := fun i (h0 : 0 ≤ i) (h1 : i < cnt c) => q2l (c := c) tU h0 h1
 have hc := q2r c tU
 have hc0 := q6s c
 have hx0 := q6s xs
 have hLv := qDg c xs (q1m c i.toNat)
 have hlen := qEv c xs (q1m c i.toNat)
 have hnl := q6l c i.toNat
 have hroot := fun (h0 : 0 ≤ i) (h1 : i < cnt c) => q5o h0 h1
 have hok : q4j c = true → ∀ (q : Int) t,0 ≤ q → c[q.toNat]? = some t → q1n t q = true := fun h q t h0 ht => by
  have := q1j.1 h q.toNat t ht
  rwa [show (q.toNat : Int) = q by omega] at this
 have hrefs : qLf c (q1m c i.toNat) (cnt xs) = true → ∀ (q : Int) t,0 ≤ q → c[q.toNat]? = some t → (q1m c i.toNat)[q.toNat]? = some true → t.k = 2 → t.n < cnt xs := fun h q t h0 ht hb => q5i.1 h q.toNat t ht hb
 have hno := fun q vs => ev_no (c := c) (xs := xs) (nd := q1m c i.toNat) (q := q) (vs := vs)
 unfold ofS at hu
 clear kT hC hE1 hE2 hE0
 unfold cU qsU at *
 generalize c.map tU = cs at *
 generalize xs.map qU = xr at *
 have hmb : q6a c i xs = true → q7x c i = true ∧ qLf c (q1m c i.toNat) (cnt xs) = true := fun h => by
  unfold q6a at h
  simp only [Bool.and_eq_true] at h
  exact ⟨h.1.1,h.2⟩
 have hmay : q7x c i = true → 0 ≤ i ∧ i < cnt c ∧ q4j c = true := fun h => by
  unfold q7x at h
  simp only [Bool.and_eq_true,decide_eq_true_eq] at h
  exact ⟨h.1.1,h.1.2,h.2⟩
 generalize q1m c i.toNat = nd at *
 have hnx := fun j (h0 : 0 ≤ j) (h1 : j < cnt nd) => uB_nth (s := nd) h0 h1
 generalize uB nd = nds at *
 generalize q6a c i xs = mb at *
 obtain ⟨v0,hv0⟩ : ∃ v0,v0 = (List.replicate c.length q7a).map qU := ⟨_,rfl⟩
 obtain ⟨n,hnn⟩ : ∃ n,n = cnt c := ⟨_,rfl⟩
 rw [← hv0,← hnn] at hmade
 cbv
 (repeat ((first | refine ln fun _ _ _ => ?_ | refine tt ?_ | refine ff ?_ | refine wr fun _ _ => ?_ | refine rp fun _ _ _ => ?_ | with_reducible refine bq ?_ | refine cl ?_ | refine sd ?_ | intro _ _); cbv))
 cases mb
 ·rw [if_neg (by simp)] at hu
  refine hmade _ (fun h => by cases h) (fun _ h => ?_)
  clear hmade hterm hload hcn hno hLv hlen hnx hrefs hok hroot
  cbv
  (repeat ((with_reducible refine bq ?_); cbv))
  exact hu.symm
 rw [if_pos rfl] at hu
 obtain ⟨hmay2,hrf⟩ := hmb rfl
 obtain ⟨hi0,hi1,hgc⟩ := hmay hmay2
 have hroot := hroot hi0 hi1
 have hok := hok hgc
 have hrefs := hrefs hrf
 refine hmade _ (fun _ => ?_) (fun h => by cases h)
 clear hmade hmay hmb hmay2 hrf hgc
 cbv
 (repeat ((first | refine wr fun _ _ => ?_ | with_reducible refine bq ?_); cbv))
 rename_i e he
 refine q4n [0,1,6,8,24,25] ?_
 cbv
 refine q2g (fun j a h => ∃ (q : Int) (vs : List R3) (vr : Rows) (cn : Int),0 ≤ q ∧ q ≤ i + 1 ∧ j = (i + 1 - q).toNat ∧ evN c xs nd q.toNat = (vs,0) ∧ vr = vs.map qU ∧ 0 ≤ cn ∧ cn ≤ q ∧ (q = i + 1 → 1 ≤ cn) ∧ a = [.s 7 cs,ui i,.lost,.lost,.lost,.lost,.ptr 0 0,.lost,.ptr 2 0,.lost,.lost,.lost,.lost,.lost,.lost,.lost,.lost,.lost,.lost,.lost,.lost,.lost,.lost,.lost,ui e,ui q,.lost,.lost,.lost,.lost,.lost,.lost,.lost,.lost,.lost,.lost,.lost,.lost,.lost,.lost,.lost,.lost,.lost,.lost,.lost,.lost,.lost,.lost,.lost,.lost,.lost,.lost,.lost,.lost,.lost,.lost,.lost,.lost,.lost,.lost,.lost,.lost,.lost,.lost,.lost,.lost,.lost,.lost,.lost,.lost] ∧ h = [some (.cells [ub false,.l [],.l []]),some (.row 3 vr),some (.cells [.s 7 cs,.s 1 nds,.s 3 xr,.sl 1 n n 3,ui cn])]) ?_ r (i + 1).toNat _ _ (by omega) ⟨0,List.replicate c.length q7a,v0,0,by omega,by omega,by omega,rfl,hv0,by omega,by omega,fun h => absurd h (by omega),rfl,rfl⟩
 rintro j a h K ⟨q,vs,vr,cn,q0,q1,hj,hev,hvr,c0,c1,c2,rfl,rfl⟩ hK
 have hvl : cnt vs = cnt c := by
  have := hlen q.toNat
  rw [hev] at this
  unfold cnt
  rw [this]
 rcases Decidable.em (q < i + 1) with hlt | hlt
 ·obtain ⟨b,hb,hz⟩ := hnx q q0 (by omega)
  obtain ⟨t,ht,hy⟩ := hcn q q0 (by omega)
  cases b
  ·have hnext := hno q vs q0 hev hb
   have hqi : q ≠ i := fun h => by
    rw [h,hroot] at hb
    injection hb with hb
    cases hb
   cbv
   (repeat ((refine tt ?_); cbv))
   refine el ?_ (by omega) hz
   cbv
   (repeat ((first | refine wr fun _ _ => ?_ | with_reducible refine bq ?_); cbv))
   rename_i q' hq'
   refine q4n [0,1,6,8,24,25] ?_
   exact hK (i + 1 - (q + 1)).toNat _ _ (by omega) ⟨q + 1,vs,vr,cn,by omega,by omega,rfl,hnext,hvr,c0,by omega,fun h => absurd h (by omega),by rw [hq']; rfl,rfl⟩
  ·have hvL : ∀ a ∈ vs,LB a := by
    have := hLv q.toNat
    rw [hev] at this
    exact this
   have h3 := fun k => hterm q t vs (.cells [ub false,.l [],.l []]) nds n cn ht (hok q t q0 ht) (by omega) (fun h => hrefs q t q0 ht hb h) (by omega) (hq t (List.mem_of_getElem? ht)) hvL hx c0 (by omega) (k := k)
   obtain ⟨s7,l7,d7,e7,ek⟩ : ∃ s l d e,(s,l,d,e) = evT vs xs t := ⟨_,_,_,_,rfl⟩
   rw [← ek,← hvr] at h3
   have hnext := j0u q0 hev hb ht ek
   have hvx := q2l (c := vs) qU q0 (by omega)
   obtain ⟨⟨s1,l1,d1⟩,w1,w2⟩ := hvx
   rw [← hvr] at w2
   obtain ⟨kd,ta,tb,m,s,l,d⟩ := t
   clear hterm hno hlen hLv hrefs hok hroot hload hcn hnx hvL
   cbv
   (repeat ((refine tt ?_); cbv))
   refine el ?_ (by omega) hz
   cbv
   (repeat ((with_reducible refine bq ?_); cbv))
   refine el ?_ (by omega) hy
   cbv
   (repeat ((first | refine ln fun _ _ _ => ?_ | refine tt ?_ | refine ff ?_ | refine wr fun _ _ => ?_ | refine rp fun _ _ _ => ?_ | with_reducible refine bq ?_ | refine cl ?_ | refine sd ?_ | intro _ _); cbv))
   refine h3 _ fun z hz' x1 x2 => ?_
   clear h3
   cbv
   rcases Decidable.em (e7 = 0) with h0 | h0
   ·subst h0
    rw [if_pos rfl] at hnext
    (repeat ((first | refine ff ?_ | refine sd ?_); cbv))
    refine el ?_ (by omega) w2
    cbv
    refine se fun ys he' hyc => ?_
    have e2 : ys = (vs.set q.toNat (s7,l7,d7)).map qU := by rw [he',List.map_set,← hvr]; rfl
    clear he' hyc
    cbv
    (repeat (((refine wr fun _ _ => ?_)); cbv))
    rename_i q' hq'
    refine q4n [0,1,6,8,24,25] ?_
    exact hK (i + 1 - (q + 1)).toNat _ _ (by omega) ⟨q + 1,_,ys,z,by omega,by omega,rfl,hnext,e2,by omega,by omega,fun h => by omega,by rw [hq']; rfl,rfl⟩
   ·rw [if_neg h0] at hnext
    rw [j1b q0 (by omega) h0 hnext,if_neg h0] at hu
    clear hnext hK
    (repeat ((refine tt ?_); cbv))
    exact hu.symm
 ·rw [show q.toNat = i.toNat + 1 by omega] at hev
  obtain ⟨⟨s1,l1,d1⟩,w1,w2⟩ := q2l (c := vs) qU hi0 (by omega)
  rw [← hvr] at w2
  rw [hev,if_pos rfl,q7k w1] at hu
  have c2 := c2 (by omega)
  clear hterm hno hlen hLv hrefs hok hroot hcn hnx hK
  cbv
  (repeat ((refine ff ?_); cbv))
  refine hload _ _ _ ?_
  cbv
  (repeat ((first | refine ff ?_ | refine sd ?_); cbv))
  refine el ?_ (by omega) w2
  cbv
  (repeat ((first | refine ln fun _ _ _ => ?_ | refine tt ?_ | refine ff ?_ | refine wr fun _ _ => ?_ | refine rp fun _ _ _ => ?_ | with_reducible refine bq ?_ | refine cl ?_ | refine sd ?_ | intro _ _); cbv))
  exact hu.symm
def in64 (x : Int) : Prop := -9223372036854775808 ≤ x ∧ x ≤ 9223372036854775807
structure TmOk (t : Tm) : Prop where
 k : in64 t.k
 a : in64 t.a
 b : in64 t.b
 n : in64 t.n
 q : LB t.q
theorem qGr {s : List Bool} {i j : Nat} : (s.set i true)[j]? = some true ↔ s[j]? = some true ∨ (j < s.length ∧ i = j) := by
 rw [List.getElem?_set]
 by_cases e : i = j
 ·rw [if_pos e]
  by_cases h : i < s.length
  ·rw [if_pos h]
   exact ⟨fun _ => .inr ⟨e ▸ h,e⟩,fun _ => rfl⟩
  ·rw [if_neg h]
   exact ⟨fun h => by (cases h), fun h' => by
    rcases h' with h' | h'
    ·have := (List.getElem?_eq_some_iff.1 h').1
     omega
    ·omega⟩
 ·rw [if_neg e]
  exact ⟨.inl,fun h => h.elim id fun h => absurd h.2 e⟩
theorem q8g {j : Nat} : ∀ {ks : List Int} {s : List Bool},(qIp s ks)[j]? = some true ↔ s[j]? = some true ∨ (j < s.length ∧ ∃ k ∈ ks,k.toNat = j)
 | [],s => by
  show s[j]? = some true ↔ _
  simp
 | k :: ks,s => by
  show (qIp (s.set k.toNat true) ks)[j]? = some true ↔ _
  rw [q8g,qGr,List.length_set]
  constructor
  ·rintro ((h | h) | ⟨h,x,hx,e⟩)
   ·exact .inl h
   ·exact .inr ⟨h.1,k,List.mem_cons_self ..,h.2⟩
   ·exact .inr ⟨h,x,List.mem_cons_of_mem _ hx,e⟩
  ·rintro (h | ⟨h,x,hx,e⟩)
   ·exact .inl (.inl h)
   ·rcases List.mem_cons.1 hx with rfl | hx
    ·exact .inl (.inr ⟨h,e⟩)
    ·exact .inr ⟨h,x,hx,e⟩
def qMb (c : List Tm) : Prop := ∀ (j : Nat) t,c[j]? = some t → ∀ k ∈ q5z t,0 ≤ k ∧ k < (j : Int)
theorem q5a {c : List Tm} (h : q4j c = true) : qMb c := fun j t ht k hk => q6b (q1j.1 h j t ht) k hk
theorem qEa {c : List Tm} (h : qMb c) {j : Nat} {k : Int} (hk : k ∈ qCb c j) : 0 ≤ k ∧ k < (j : Int) := by
 unfold qCb at hk
 cases e : c[j]? with
 | none => rw [e] at hk; cases hk
 | some t => rw [e] at hk; exact h j t e k hk
theorem qLe {c : List Tm} (hc : qMb c) {j : Nat} : ∀ (m : Nat) (s : List Bool),m ≤ j → ((qBm c m s)[j]? = some true ↔ s[j]? = some true)
 | 0,s,_ => Iff.rfl
 | m + 1,s,h => by
  unfold qBm
  rw [qLe hc m _ (by omega)]
  split
  ·rw [q8g]
   exact ⟨fun h' => h'.elim id fun ⟨_,k,hk,e⟩ => by have := qEa hc hk; omega,.inl⟩
  ·exact Iff.rfl
theorem qPp {c : List Tm} (hc : qMb c) {j : Nat} : ∀ (m : Nat) (s : List Bool),(qBm c m s)[j]? = some true → s[j]? = some true ∨ j + 1 < m
 | 0,s,h => .inl h
 | m + 1,s,h => by
  unfold qBm at h
  rcases qPp hc m _ h with h | h
  ·split at h
   ·rcases q8g.1 h with h | ⟨_,k,hk,e⟩
    ·exact .inl h
    ·have := qEa hc hk
     exact .inr (by omega)
   ·exact .inl h
  ·exact .inr (by omega)
theorem qAn {c : List Tm} (hc : qMb c) {i j : Nat} (h : (q1m c i)[j]? = some true) : j ≤ i := by
 unfold q1m at h
 rcases qPp hc _ _ h with h | h
 ·rcases qGr.1 h with h | h
  ·rw [List.getElem?_replicate] at h
   split at h <;> cases h
  ·omega
 ·omega
theorem qPx {c : List Tm} (hc : qMb c) {j : Nat} {k : Int} (hk : k ∈ qCb c j) : ∀ (m : Nat) (s : List Bool),s.length = c.length → j < m → (qBm c m s)[j]? = some true → (qBm c m s)[k.toNat]? = some true
 | 0,s,_,h,_ => absurd h (by omega)
 | m + 1,s,hs,h,hd => by
  unfold qBm at hd ⊢
  by_cases e : j = m
  ·subst e
   rw [qLe hc j _ (Nat.le_refl _)] at hd
   have hsj : s[j]? = some true := by
    split at hd
    ·assumption
    ·exact hd
   rw [if_pos hsj]
   refine qDu (q8g.2 (.inr ⟨?_,k,hk,rfl⟩))
   have := (List.getElem?_eq_some_iff.1 hsj).1
   have := qEa hc hk
   omega
  ·refine qPx hc hk m _ ?_ (by omega) hd
   split
   ·rw [q8v,hs]
   ·exact hs
theorem q5v {c : List Tm} (hc : qMb c) {i j : Nat} {t : Tm} {k : Int} (ht : c[j]? = some t) (hk : k ∈ q5z t) (h : (q1m c i)[j]? = some true) : (q1m c i)[k.toNat]? = some true := by
 have hj := qAn hc h
 unfold q1m at h ⊢
 exact qPx hc (by unfold qCb; rw [ht]; exact hk) _ _ (by rw [List.length_set,List.length_replicate]) (by omega) h
theorem j1g {l : List Int} (hl : q0i l) (hs : cnt l ≤ 1000000) : q0a.R [.l l] (.l (N (V l))) := by obtain ⟨k,hk⟩ := (q2u hl (by unfold cnt at hs; omega)).rounds; exact ⟨k,_,_,rfl,hk,rfl⟩
theorem of2R {a b : List Int} (ha : q0i a) (hb : q0i b) (h1 : cnt a ≤ 1000000) (h2 : cnt b ≤ 1000000) : q0g.R [.l a,.l b] (.l (N (V a * V b))) := by obtain ⟨k,hk⟩ := (qQk ha hb (by unfold cnt at h1; omega) (by unfold cnt at h2; omega)).rounds; exact ⟨k,_,_,_,rfl,hk,rfl⟩
theorem gcd3R {a b : List Int} (ha : q0i a) (hb : q0i b) (h1 : cnt a ≤ 1000000) (h2 : cnt b ≤ 1000000) : q0o.R [.l a,.l b] (.l (N (Nat.gcd (V a) (V b)))) := by obtain ⟨k,hk⟩ := (qQa ha hb (by unfold cnt at h1; omega) (by unfold cnt at h2; omega)).rounds; exact ⟨k,_,_,_,rfl,hk,rfl⟩
theorem rem3R {a b : List Int} (ha : q0i a) (hb : q0i b) (h1 : cnt a ≤ 1000000) (h2 : cnt b ≤ 1000000) (hz : V b ≠ 0) : q0d.R [.l a,.l b] (.agg [.l (N (V a / V b)),.l (N (V a % V b)),ub true]) := by
 obtain ⟨k,hk⟩ := (qFl ha hb (by unfold cnt at h1; omega) (by unfold cnt at h2; omega)).rounds
 rw [if_neg hz] at hk
 exact ⟨k,_,_,_,_,_,rfl,hk,rfl⟩
theorem of1R {r : Int} (h0 : 0 ≤ r) (h1 : r < 18446744073709551616) : q1g.R [.v (.int .u64 r)] (.l (N r.toNat)) := by obtain ⟨k,hk⟩ := (qRx h0 h1).rounds; exact ⟨k,_,_,rfl,hk,rfl⟩
def q4v (us : List U) (u : U) : Prop := ∃ s l,q0i l ∧ cnt l ≤ 1000000 ∧ us = [ub s,.l l] ∧ u = uI (Z s l)
theorem q5t : q0w Tryz.prog 96 q4v := sound [(63, q0a.R)] (q0c q0a.sound q0v) Tryz.func96 (by kernel_rfl) (by kernel_rfl) fun us u hR =>                                                     ⟨0, fun C E hC => by
 obtain ⟨s,l,hl,hs,rfl,hu⟩ := hR
 rw [uI_Z] at hu
 obtain ⟨l',k1,el⟩ := tN (hC 63 q0a.R (by simp) _ _ (j1g hl hs))
 rw [← el] at hu
 clear el
 have g := q6s l'
 by_cases h0 : 0 < cnt l' <;> cases s <;> cbv <;> (repeat ((first | refine ln fun _ _ _ => ?_ | refine tt ?_ | refine ff ?_ | refine cl ?_); cbv)) <;> (rw [hu]; simp [h0])⟩
def qAo (us : List U) (u : U) : Prop := ∃ s l,q0i l ∧ cnt l ≤ 1000000 ∧ us = [.agg [ub s,.l l]] ∧ u = uI (Z s l)
theorem qGq : q0w Tryz.prog 97 qAo := sound [(96, q4v)] (q0c q5t q0v) Tryz.func97 (by kernel_rfl) (by kernel_rfl) fun us u hR =>                             ⟨0, fun C E hC => by
 obtain ⟨s,l,hl,hs,rfl,hu⟩ := hR
 obtain ⟨s1,l1,k1,e1,e2⟩ := tI (hC 96 q4v (by simp) _ _ ⟨s,l,hl,hs,rfl,rfl⟩)
 cbv
 (repeat ((refine cl ?_); cbv))
 rw [hu, e1, e2]; rfl⟩
def qKz (us : List U) (u : U) : Prop := ∃ s1 l1 s2 l2,q0i l1 ∧ q0i l2 ∧ cnt l1 ≤ 100000 ∧ cnt l2 ≤ 100000 ∧ us = [.agg [ub s1,.l l1],.agg [ub s2,.l l2]] ∧ u = uI (Z s1 l1 * Z s2 l2)
theorem qMp : q0w Tryz.prog 59 qKz := sound [(96, q4v), (97, qAo), (61, q0g.R)] (q0c q5t (q0c qGq (q0c q0g.sound q0v))) Tryz.func59 (by kernel_rfl) (by kernel_rfl) fun us u hR =>                                                                         ⟨0, fun C E hC => by
 obtain ⟨s1,l1,s2,l2,h1,h2,c1,c2,rfl,hu⟩ := hR
 obtain ⟨t1,m1,k1,e1,f1⟩ := tI (hC 97 qAo (by simp) _ _ ⟨s1,l1,h1,by omega,rfl,rfl⟩)
 obtain ⟨t2,m2,k2,e2,f2⟩ := tI (hC 97 qAo (by simp) _ _ ⟨s2,l2,h2,by omega,rfl,rfl⟩)
 have c3 := qTk h1 h2
 have sm := qZa (Z s1 l1) (Z s2 l2)
 rw [← e1,← e2,qAm,qAm] at sm
 have k3 := hC 61 q0g.R (by simp) _ _ (of2R h1 h2 (by omega) (by omega))
 have k4 := hC 96 q4v (by simp) _ _ ⟨t1 != t2,N (V l1 * V l2),q0t _,by omega,rfl,rfl⟩
 rw [sm,← hu] at k4
 obtain ⟨s4,l4,hu'⟩ : ∃ s l,u = .agg [ub s,.l l] := ⟨_,_,hu⟩
 rw [hu'] at k4
 clear hu sm e1 e2 f1 f2 c3
 generalize N (V l1 * V l2) = l3 at *
 cases t1 <;> cases t2 <;> cbv <;> (repeat ((first | with_reducible refine bq ?_ | refine cl ?_); cbv)) <;> exact hu'.symm⟩
def of6R (us : List U) (u : U) : Prop := ∃ v : Int,-9223372036854775808 ≤ v ∧ v ≤ 9223372036854775807 ∧ us = [ui v] ∧ u = uI v
theorem of6_ok : q0w Tryz.prog 77 of6R := sound [(96, q4v), (110, q1g.R)] (q0c q5t (q0c q1g.sound q0v)) Tryz.func77 (by kernel_rfl) (by kernel_rfl) fun us u hR =>                                                      ⟨0, fun C E hC => by
 obtain ⟨v,h0,h1,rfl,hu⟩ := hR
 have hl : len v.natAbs ≤ 2 := q2x.2 (by omega)
 have k1 : ∀ r : Int,0 ≤ r → (r = v ∨ r = -v) → C 110 [.v (.int .u64 r)] (.l (N v.natAbs)) := fun r g0 g1 => by
  have := hC 110 q1g.R (by simp) _ _ (of1R (r := r) (by omega) (by omega))
  rwa [show r.toNat = v.natAbs by omega] at this
 have k2 := hC 96 q4v (by simp) _ _ ⟨decide (v < 0),N v.natAbs,q0t _,by rw [q2i]; omega,rfl,rfl⟩
 rw [show Z (decide (v < 0)) (N v.natAbs) = v from Z_I v,← hu] at k2
 obtain ⟨s4,l4,hu'⟩ : ∃ s l,u = .agg [ub s,.l l] := ⟨_,_,hu⟩
 rw [hu'] at k2
 generalize N v.natAbs = l at *
 by_cases h : v < 0
 ·rw [decide_eq_true h] at k2
  cbv
  refine tt ?_
  cbv
  refine wr fun r1 q1 => ?_
  cbv
  refine wr fun r2 q2 => ?_
  cbv
  refine wu fun r3 q3 => ?_
  cbv
  refine wu fun r4 q4 => ?_
  cbv
  refine cl ?_ (k1 r4 (by omega) (by omega))
  cbv
  (repeat ((refine cl ?_); cbv))
  exact hu'.symm
 ·rw [decide_eq_false h] at k2
  cbv
  refine ff ?_
  cbv
  refine wu fun r1 q1 => ?_
  cbv
  refine cl ?_ (k1 r1 (by omega) (by omega))
  cbv
  (repeat ((refine cl ?_); cbv))
  exact hu'.symm⟩
theorem limb1 {g : Nat} (h : len g = 1) : N g = [(g : Int)] := by
  obtain ⟨y,hy⟩ := List.length_eq_one_iff.1 (show (N g).length = 1 by rw [q1e]; exact h)
  have e : rd (N g) 0 = (g : Int) := by
    have h2 := j1f (q0t g) 0
    have h3 := q1d (q0t g) ((0 : Nat) : Int)
    have h4 := q2x.1 (Nat.le_of_eq h)
    rw [V_N,Nat.pow_zero,Nat.div_one] at h2
    rw [Nat.pow_one] at h4
    rw [Nat.mod_eq_of_lt h4] at h2
    have : rd (N g) 0 = rd (N g) ((0 : Nat) : Int) := rfl
    omega
  rw [hy] at e ⊢
  rw [← e]; rfl
theorem q6y : q0w Tryz.prog 46 q3p := sound [(80, q0z.R), (81, q0o.R)] (q0c q0z.sound (q0c q0o.sound q0v)) Tryz.func46 (by kernel_rfl) (by kernel_rfl) fun us u hR =>                                                                                             ⟨0, fun C E hC => by
  obtain ⟨⟨s,l,b⟩,⟨hl,hb,hsl,hsb⟩,rfl,hu⟩ := hR
  have hl : q0i l := hl
  have hb : q0i b := hb
  have k1 := hC 80 q0z.R (by simp) [.l l] _ ⟨_,_,rfl,q9g hl hsl,rfl⟩
  have k2 := hC 80 q0z.R (by simp) [.l b] _ ⟨_,_,rfl,q9g hb hsb,rfl⟩
  clear hsl hsb
  have g1 := q6s l
  have g2 := q6s b
  unfold q1r at hu
  dsimp only at hu
  have e1 : (decide (b.length ≠ 0)) = decide (cnt b ≠ 0) := by rw [decide_eq_decide]; unfold cnt; omega
  have e2 : (decide (b.length ≤ 64)) = decide (cnt b ≤ 64) := by rw [decide_eq_decide]; unfold cnt; omega
  have e3 : (decide (l.length ≤ 64)) = decide (cnt l ≤ 64) := by rw [decide_eq_decide]; unfold cnt; omega
  have e4 : (decide (l.length = 0)) = decide (cnt l = 0) := by rw [decide_eq_decide]; unfold cnt; omega
  rw [e1,e2,e3,e4] at hu
  clear e1 e2 e3 e4
  generalize decide (N (V l) = l) = t1 at *
  generalize decide (N (V b) = b) = t2 at *
  cases t1
  · cbv; (repeat ((first | with_reducible refine bq ?_ | refine cl ?_); cbv)); rw [hu]; rfl
  cases t2
  · cbv; (repeat ((first | with_reducible refine bq ?_ | refine cl ?_); cbv)); rw [hu]; rfl
  by_cases h3 : cnt b = 0
  · cbv; (repeat ((first | refine ln fun _ _ _ => ?_ | refine tt ?_ | with_reducible refine bq ?_ | refine cl ?_); cbv)); rw [hu]; simp [h3]
  by_cases h4 : cnt b ≤ 64
  case neg => cases s <;> by_cases h6 : cnt l = 0 <;> by_cases h5 : cnt l ≤ 64 <;> cbv <;> (repeat ((first | refine ln fun _ _ _ => ?_ | refine tt ?_ | refine ff ?_ | with_reducible refine bq ?_ | refine cl ?_); cbv)) <;> (rw [hu]; simp [h4])
  by_cases h5 : cnt l ≤ 64
  case neg => cases s <;> cbv <;> (repeat ((first | refine ln fun _ _ _ => ?_ | refine tt ?_ | refine ff ?_ | with_reducible refine bq ?_ | refine cl ?_); cbv)) <;> (rw [hu]; simp [h5])
  have k3 := hC 81 q0o.R (by simp) _ _ (gcd3R hl hb (by omega) (by omega))
  obtain ⟨g,eg⟩ : ∃ g,g = Nat.gcd (V l) (V b) := ⟨_,rfl⟩
  rw [show decide (Nat.gcd (V l) (V b) = 1) = decide (g = 1) by rw [eg]] at hu
  rw [← eg] at k3
  clear eg
  by_cases h7 : len g = 1
  · have hc : cnt (N g) = 1 := by rw [q2i]; omega
    have hi : (N g)[(0 : Int).toNat]? = some (g : Int) := by rw [limb1 h7]; rfl
    generalize N g = l3 at *
    rw [show decide (g = 1) = decide ((g : Int) = 1) by rw [decide_eq_decide]; omega] at hu
    generalize (g : Int) = y at *
    clear h7
    cases s
    · by_cases hd : y = 1 <;> cbv <;> (repeat ((first | refine ln fun _ _ _ => ?_ | refine tt ?_ | refine ff ?_ | with_reducible refine bq ?_ | refine cl ?_); cbv)) <;> (refine ei ?_ (by omega) hi) <;> cbv <;> (repeat ((first | refine tt ?_ | refine ff ?_); cbv)) <;> (rw [hu]; simp [h3,h4,h5,hd])
    · by_cases h6 : cnt l = 0
      · cbv; (repeat ((first | refine ln fun _ _ _ => ?_ | refine tt ?_ | refine ff ?_ | with_reducible refine bq ?_ | refine cl ?_); cbv)); rw [hu]; simp [h6]
      · by_cases hd : y = 1 <;> cbv <;> (repeat ((first | refine ln fun _ _ _ => ?_ | refine tt ?_ | refine ff ?_ | with_reducible refine bq ?_ | refine cl ?_); cbv)) <;> (refine ei ?_ (by omega) hi) <;> cbv <;> (repeat ((first | refine tt ?_ | refine ff ?_); cbv)) <;> (rw [hu]; simp [h3,h4,h5,h6,hd])
  · have h8 : ¬ cnt (N g) = 1 := by rw [q2i]; omega
    have h9 : ¬ g = 1 := fun h => h7 (by rw [h]; decide +kernel)
    rw [decide_eq_false h9] at hu
    generalize N g = l3 at *
    clear h7 h9
    cases s
    · cbv; (repeat ((first | refine ln fun _ _ _ => ?_ | refine ff ?_ | with_reducible refine bq ?_ | refine cl ?_); cbv)); rw [hu]; simp
    · by_cases h6 : cnt l = 0
      · cbv; (repeat ((first | refine ln fun _ _ _ => ?_ | refine tt ?_ | refine ff ?_ | with_reducible refine bq ?_ | refine cl ?_); cbv)); rw [hu]; simp [h6]
      · cbv; (repeat ((first | refine ln fun _ _ _ => ?_ | refine ff ?_ | with_reducible refine bq ?_ | refine cl ?_); cbv)); rw [hu]; simp⟩
def u76 (a : R4) : U := .agg [ub a.1,.l a.2.1,.l a.2.2.1,ui a.2.2.2]
theorem q4c (a : R4) : ∃ s l b e,u76 a = .agg [ub s,.l l,.l b,ui e] ∧ (s,l,b,e) = a := ⟨_,_,_,_,rfl,rfl⟩
def qLw (us : List U) (u : U) : Prop := ∃ s l b,q0i l ∧ q0i b ∧ cnt l ≤ 500000 ∧ cnt b ≤ 500000 ∧ V b ≠ 0 ∧ us = [.agg [ub s,.l l],.l b] ∧ u = uR (q0x (mkRat (Z s l) (V b)))
theorem qMy : q0w Tryz.prog 57 qLw := sound [(97, qAo), (96, q4v), (81, q0o.R), (98, q0d.R)] (q0c qGq (q0c q5t (q0c q0o.sound (q0c q0d.sound q0v)))) Tryz.func57 (by kernel_rfl) (by kernel_rfl) fun us u hR =>                                                                                                              ⟨0, fun C E hC => by
  obtain ⟨s,l,b,hl,hb,c1,c2,hz,rfl,hu⟩ := hR
  obtain ⟨s1,l1,k1,e1,e2⟩ := tI (hC 97 qAo (by simp) _ _ ⟨s,l,hl,by omega,rfl,rfl⟩)
  have b1 := qPg hl
  have b2 := qPg hb
  rw [← qAm s l] at b1
  generalize Z s l = z at *
  obtain ⟨p1,p2,p3⟩ := q6f z (V b) hz
  have hg : 0 < Nat.gcd z.natAbs (V b) := Nat.gcd_pos_of_pos_right _ (by omega)
  have hgb : len (Nat.gcd z.natAbs (V b)) ≤ len (V b) := q2h (Nat.gcd_le_right _ (by omega))
  have k3 := hC 81 q0o.R (by simp) _ _ (gcd3R (a := l1) (e2 ▸ q0t _) hb (by rw [e2,q2i]; omega) (by omega))
  have v1 : V l1 = z.natAbs := by rw [e2,V_N]
  have q1 : cnt l1 = len z.natAbs := by rw [e2,q2i]
  rw [v1] at k3
  have k4 := hC 98 q0d.R (by simp) _ _ (rem3R (a := l1) (e2 ▸ q0t _) (q0t (Nat.gcd z.natAbs (V b))) (by omega) (by rw [q2i]; omega) (by rw [V_N]; omega))
  have k5 := hC 98 q0d.R (by simp) _ _ (rem3R hb (q0t (Nat.gcd z.natAbs (V b))) (by omega) (by rw [q2i]; omega) (by rw [V_N]; omega))
  rw [v1,V_N,← p1] at k4
  rw [V_N,← p2] at k5
  have hx : len (mkRat z (V b)).num.natAbs ≤ len z.natAbs := by rw [p1]; exact q2h (Nat.div_le_self _ _)
  have k6 := hC 96 q4v (by simp) _ _ ⟨s1,N (mkRat z (V b)).num.natAbs,q0t _,by rw [q2i]; omega,rfl,rfl⟩
  rw [show Z s1 (N (mkRat z (V b)).num.natAbs) = (mkRat z (V b)).num by rw [e1,← p3]; exact Z_I _] at k6
  obtain ⟨s7,l7,k6,i7,i8⟩ := tI k6
  have hu' : u = .agg [ub s7,.l l7,.l (N (mkRat z (V b)).den)] := by rw [hu,i7,i8]; rfl
  clear hu i7 i8 e1 e2 p1 p2 p3 hg hgb v1 b1 b2 q1 hb hl hz hx c1 c2
  generalize N (mkRat z (V b)).num.natAbs = l3 at *
  generalize N (mkRat z (V b)).den = l4 at *
  generalize N (Nat.gcd z.natAbs (V b)) = l6 at *
  generalize N (z.natAbs % Nat.gcd z.natAbs (V b)) = l8 at *
  generalize N (V b % Nat.gcd z.natAbs (V b)) = l9 at *
  cbv; (repeat ((refine cl ?_); cbv)); exact hu'.symm⟩
def q8l (us : List U) (u : U) : Prop := ∃ q,us = [uR (q0x q)] ∧ u = u76 (lim q)
theorem qAr : q0w Tryz.prog 95 q8l := sound [] q0v Tryz.func95 (by kernel_rfl) (by kernel_rfl) fun us u hR =>                ⟨0, fun C E hC => by
  obtain ⟨q,rfl,hu⟩ := hR
  have hu2 : u = if cnt (N q.num.natAbs) ≤ 64 ∧ cnt (N q.den) ≤ 64 then .agg [ub (decide (q.num < 0)),.l (N q.num.natAbs),.l (N q.den),ui 0] else .agg [ub false,.l [],.l [],ui 2] := by
    rw [hu,q2i,q2i]
    unfold lim fits
    by_cases h : len q.num.natAbs ≤ 64 ∧ len q.den ≤ 64
    · rw [if_pos (by simpa using h),if_pos (by omega)]; rfl
    · rw [if_neg (by simpa using h),if_neg (by omega)]; rfl
  clear hu
  unfold uR q0x
  dsimp only
  generalize decide (q.num < 0) = s at *
  generalize N q.num.natAbs = l at *
  generalize N q.den = b at *
  by_cases h1 : cnt l ≤ 64
  · by_cases h2 : cnt b ≤ 64
    · rw [if_pos ⟨h1,h2⟩] at hu2
      cbv; (repeat ((first | refine ln fun _ _ _ => ?_ | refine ff ?_); cbv)); exact hu2.symm
    · rw [if_neg (by omega)] at hu2
      cbv; (repeat ((first | refine ln fun _ _ _ => ?_ | refine tt ?_ | refine ff ?_); cbv)); exact hu2.symm
  · rw [if_neg (by omega)] at hu2
    cbv; (repeat ((first | refine ln fun _ _ _ => ?_ | refine tt ?_); cbv)); exact hu2.symm⟩
def qKp (us : List U) (u : U) : Prop := ∃ p s l b,fits p = true ∧ q0i l ∧ q0i b ∧ cnt l ≤ 64 ∧ cnt b ≤ 64 ∧ V b ≠ 0 ∧ us = [uR (q0x p),.agg [ub s,.l l,.l b]] ∧ u = uR (q0x (mkRat (p.num * Z s l) (p.den * V b)))
theorem qOg : q0w Tryz.prog 30 qKp := sound [(59, qKz), (61, q0g.R), (57, qLw)] (q0c qMp (q0c q0g.sound (q0c qMy q0v))) Tryz.func30 (by kernel_rfl) (by kernel_rfl) fun us u hR =>                                                                       ⟨0, fun C E hC => by
  obtain ⟨p,s,l,b,hp,hl,hb,c1,c2,hz,rfl,hu⟩ := hR
  obtain ⟨s1,l1,b1,e,f1,f2,f3,f4,f5,f6,f7,f8⟩ := q7y hp
  rw [e]
  have k1 := hC 59 qKz (by simp) _ _ ⟨s1,l1,s,l,f1,hl,by omega,by omega,rfl,rfl⟩
  rw [f5] at k1
  have k2 := hC 61 q0g.R (by simp) _ _ (of2R f2 hb (by omega) (by omega))
  rw [f6] at k2
  have m1 := q5g p.num (Z s l)
  have m2 := q4s p.den (V b)
  obtain ⟨n1,n2⟩ := q2w hp
  have n3 := qPg hl
  have n4 := qPg hb
  rw [qAm] at m1
  obtain ⟨s2,l2,k1,i1,i2⟩ := tI k1
  obtain ⟨l3,k2,i3⟩ := tN k2
  obtain ⟨s4,l4,b4,k3,i4⟩ := tR (hC 57 qLw (by simp) _ _ ⟨s2,l2,l3,i2 ▸ q0t _,i3 ▸ q0t _,by rw [i2,q2i]; omega,by rw [i3,q2i]; omega,by rw [i3,V_N]; exact Nat.mul_ne_zero p.den_nz hz,rfl,rfl⟩)
  rw [show Z s2 l2 = p.num * Z s l by rw [i1,i2]; exact Z_I _,show V l3 = p.den * V b by rw [i3,V_N]] at i4
  rw [← i4] at hu
  clear e i1 i2 i3 i4 m1 m2 n1 n2 n3 n4 f1 f2 f3 f4 f5 f6 f7 f8 hp hz
  cbv; (repeat ((refine cl ?_); cbv)); exact hu.symm⟩
def qUi (us : List U) (u : U) : Prop := ∃ a b : R3,LB a ∧ LB b ∧ us = [uR a,uR b] ∧ u = u76 (qCd a b)
theorem qWa : q0w Tryz.prog 56 qUi := sound [(46, q3p), (96, q4v), (30, qKp), (95, q8l)] (q0c q6y (q0c q5t (q0c qOg (q0c qAr q0v)))) Tryz.func56 (by kernel_rfl) (by kernel_rfl) fun us u hR =>                                                                 ⟨0, fun C E hC => by
  obtain ⟨⟨s1,l1,b1⟩,⟨s2,l2,b2⟩,ha,hb,rfl,hu⟩ := hR
  have k1 := hC 46 q3p (by simp) _ _ ⟨_,ha,rfl,rfl⟩
  have k2 := hC 46 q3p (by simp) _ _ ⟨_,hb,rfl,rfl⟩
  clear ha hb
  unfold qCd at hu
  by_cases h1 : q1r (s1,l1,b1) = true
  case neg =>
    rw [Bool.eq_false_iff.2 h1] at k1 hu
    rw [Bool.false_and,if_neg (by simp),show u76 (bad 1) = .agg [ub false,.l [],.l [],ui 1] from rfl] at hu
    cbv; (repeat ((first | with_reducible refine bq ?_ | refine cl ?_); cbv)); exact hu.symm
  by_cases h2 : q1r (s2,l2,b2) = true
  case neg =>
    rw [h1] at k1
    rw [Bool.eq_false_iff.2 h2] at k2 hu
    rw [Bool.and_false,if_neg (by simp),show u76 (bad 1) = .agg [ub false,.l [],.l [],ui 1] from rfl] at hu
    cbv; (repeat ((first | with_reducible refine bq ?_ | refine cl ?_); cbv)); exact hu.symm
  rw [h1] at k1 hu
  rw [h2] at k2 hu
  rw [Bool.true_and,if_pos rfl] at hu
  obtain ⟨p,hp,e1,f1,f2,f3,f4,f5,f6,f7,f8⟩ := q3u h1
  obtain ⟨q,hq,e2,g1,g2,g3,g4,g5,g6,g7,g8⟩ := q3u h2
  rw [e1,e2] at hu
  obtain ⟨p',hp',ep⟩ := q3c.1 h1
  have : p' = p := by rw [← q1b p',← ep,e1]
  subst this
  have el : cnt l2 = len q.num.natAbs := by
    obtain ⟨q',hq',eq⟩ := q3c.1 h2
    have : q' = q := by rw [← q1b q',← eq,e2]
    subst this
    injection eq with _ eq
    injection eq with eq _
    rw [eq,q2i]
  have h0 : len q.num.natAbs = 0 ↔ q.num.natAbs = 0 := q3m
  by_cases hz : q = 0
  · have hn : q.num = 0 := Rat.num_eq_zero.2 hz
    rw [if_pos hz,show u76 (bad 3) = .agg [ub false,.l [],.l [],ui 3] from rfl] at hu
    have hl0 : cnt l2 = 0 := by omega
    clear el h0 hn e1 e2 f1 f2 f3 f4 f5 f6 f7 f8 g1 g2 g3 g4 g5 g6 g7 g8 hz h1 h2
    cbv; (repeat ((first | refine ln fun _ _ _ => ?_ | refine tt ?_ | with_reducible refine bq ?_ | refine cl ?_); cbv)); exact hu.symm
  · have hn : q.num ≠ 0 := fun h => hz (Rat.num_eq_zero.1 h)
    have hl0 : ¬ cnt l2 = 0 := by omega
    rw [if_neg hz] at hu
    have k3 := hC 96 q4v (by simp) _ _ ⟨s2,b2,g2,by omega,rfl,rfl⟩
    have e3 : Z s2 b2 = if q.num < 0 then -(q.den : Int) else (q.den : Int) := by
      unfold Z
      rw [g6,g8]
      by_cases h : q.num < 0 <;> simp [h]
    rw [e3] at k3
    obtain ⟨s3,l3,k3,i1,i2⟩ := tI k3
    have ea : (if q.num < 0 then -(q.den : Int) else (q.den : Int)).natAbs = q.den := by split <;> omega
    rw [ea] at i2
    have hq2 := q2w hq
    have k4 := hC 30 qKp (by simp) _ _ ⟨p',s3,l3,l2,hp',i2 ▸ q0t _,g1,by rw [i2,q2i]; omega,by omega,by omega,rfl,rfl⟩
    rw [← ep, show Z s3 l3 = (if q.num < 0 then -(q.den : Int) else (q.den : Int)) by rw [i1, i2]; have := Z_I (if q.num < 0 then -(q.den : Int) else (q.den : Int)); rw [I_1, I_2, ea] at this; exact this, g7, show mkRat (p'.num * (if q.num < 0 then -(q.den : Int) else (q.den : Int))) (p'.den * q.num.natAbs) = p' / q by
      rw [← j0z p' q hn]
      congr 1
      split
      · rw [Int.mul_neg]
      · rfl] at k4
    have k5 := hC 95 q8l (by simp) _ _ ⟨p' / q,rfl,rfl⟩
    obtain ⟨s6,l6,b6,e6,hu',i6⟩ := q4c (lim (p' / q))
    rw [hu'] at k5 hu
    obtain ⟨s5,l5,b5,k4,i5⟩ := tR k4
    rw [← i5] at k5
    clear hu' i5 i6 el h0 hn e1 e2 f1 f2 f3 f4 f5 f6 f7 f8 g1 g2 g3 g4 g5 g6 g7 g8 hz h1 h2 e3 i1 i2 ea hq2 ep hp hp' hq
    cbv; (repeat ((first | refine ln fun _ _ _ => ?_ | refine ff ?_ | with_reducible refine bq ?_ | refine cl ?_); cbv)); exact hu.symm⟩
def q6j (us : List U) (u : U) : Prop := ∃ v : Int,-9223372036854775808 ≤ v ∧ v ≤ 9223372036854775807 ∧ us = [ui v] ∧ u = uR (q0x (v : Rat))
theorem qBa : q0w Tryz.prog 40 q6j := sound [(77, of6R)] (q0c of6_ok q0v) Tryz.func40 (by kernel_rfl) (by kernel_rfl) fun us u hR =>                       ⟨0, fun C E hC => by
  obtain ⟨v,h0,h1,rfl,hu⟩ := hR
  obtain ⟨s,l,k1,e1,e2⟩ := tI (hC 77 of6R (by simp) _ _ ⟨v,h0,h1,rfl,rfl⟩)
  rw [qKo,j3v] at hu
  cbv; (repeat ((refine cl ?_); cbv)); rw [hu, e1, e2]; rfl⟩
def byR (us : List U) (u : U) : Prop := ∃ a b : Int,-9223372036854775808 ≤ a ∧ a ≤ 9223372036854775807 ∧ 0 < b ∧ b ≤ 9223372036854775807 ∧ fits ((a : Rat) / (b : Rat)) = true ∧ us = [ui a,ui b] ∧ u = uR (q0x ((a : Rat) / (b : Rat)))
theorem by_ok : q0w Tryz.prog 26 byR := sound [(40, q6j), (56, qUi)] (q0c qBa (q0c qWa q0v)) Tryz.func26 (by kernel_rfl) (by kernel_rfl) fun us u hR =>                                  ⟨0, fun C E hC => by
  obtain ⟨a,b,h0,h1,h2,h3,hf,rfl,hu⟩ := hR
  have k1 := hC 40 q6j (by simp) _ _ ⟨a,h0,h1,rfl,rfl⟩
  have k2 := hC 40 q6j (by simp) _ _ ⟨b,by omega,h3,rfl,rfl⟩
  have fa : fits (a : Rat) = true := q7q a (by omega)
  have fb : fits (b : Rat) = true := q7q b (by omega)
  have hb : (b : Rat) ≠ 0 := by have : b ≠ 0 := by omega
                                exact_mod_cast this
  have k3 := hC 56 qUi (by simp) _ _ ⟨q0x (a : Rat),q0x (b : Rat),(q5f fa).wide,(q5f fb).wide,rfl,rfl⟩
  rw [qUj fa fb hb hf] at k3
  obtain ⟨s1,l1,b1,k1,i1⟩ := tR k1
  obtain ⟨s2,l2,b2,k2,i2⟩ := tR k2
  rw [← i1,← i2] at k3
  rcases i3 : q0x ((a : Rat) / (b : Rat)) with ⟨s3,l3,b3⟩
  rw [i3] at k3 hu
  clear i1 i2 i3 hf fa fb hb
  cbv; (repeat ((refine cl ?_); cbv)); exact hu.symm⟩
set_option maxHeartbeats 4500000
theorem add1R {a b : List Int} (ha : q0i a) (hb : q0i b) (h1 : cnt a ≤ 1000000) (h2 : cnt b ≤ 1000000) : q0f.R [.l a,.l b] (.l (N (V a + V b))) := by obtain ⟨k,hk⟩ := (qFr ha hb (by unfold cnt at h1; omega) (by unfold cnt at h2; omega)).rounds; exact ⟨k,_,_,_,rfl,hk,rfl⟩
theorem sub1R {a b : List Int} (ha : q0i a) (hb : q0i b) (h1 : cnt a ≤ 1000000) (hle : V b ≤ V a) : q0l.R [.l a,.l b] (.l (N (V a - V b))) := by obtain ⟨k,hk⟩ := (qFv ha hb (by unfold cnt at h1; omega) hle).rounds; exact ⟨k,_,_,_,rfl,hk,rfl⟩
theorem cmp1R {a b : List Int} (ha : q0i a) (hb : q0i b) (h1 : cnt a ≤ 1000000) (h2 : cnt b ≤ 1000000) : q0n.R [.l a,.l b] (ui (q9a (V a) (V b))) := by obtain ⟨k,hk⟩ := (qGg ha hb (by unfold cnt at h1; omega) (by unfold cnt at h2; omega)).rounds; exact ⟨k,_,_,_,rfl,hk,rfl⟩
def j2f (us : List U) (u : U) : Prop := ∃ s l,q0i l ∧ cnt l ≤ 1000000 ∧ us = [.agg [ub s,.l l]] ∧ u = uI (-Z s l)
theorem j1i : q0w Tryz.prog 62 j2f := sound [(96, q4v)] (q0c q5t q0v) Tryz.func62 (by kernel_rfl) (by kernel_rfl) fun us u hR =>                           ⟨0, fun C E hC => by
 obtain ⟨s,l,hl,hc,rfl,hu⟩ := hR
 obtain ⟨s1,l1,k1,e1,e2⟩ := tI (hC 96 q4v (by simp) _ _ ⟨!s,l,hl,hc,rfl,rfl⟩)
 have hz : Z (!s) l = -Z s l := by unfold Z; cases s <;> simp
 rw [hz] at e1 e2
 have hu' : u = .agg [ub s1,.l l1] := by rw [hu,e1,e2]; rfl
 clear hu e1 e2 hz
 cases s <;> (cbv; (repeat ((first | with_reducible refine bq ?_ | refine cl ?_); cbv)); exact hu'.symm)⟩
def j2h (us : List U) (u : U) : Prop := ∃ s1 l1 s2 l2,q0i l1 ∧ q0i l2 ∧ cnt l1 ≤ 100000 ∧ cnt l2 ≤ 100000 ∧ us = [.agg [ub s1,.l l1],.agg [ub s2,.l l2]] ∧ u = uI (Z s1 l1 + Z s2 l2)
theorem j4j : q0w Tryz.prog 58 j2h := sound [(96, q4v), (97, qAo), (99, q0f.R), (101, q0l.R), (100, q0n.R)] (q0c q5t (q0c qGq (q0c q0f.sound (q0c q0l.sound (q0c q0n.sound q0v))))) Tryz.func58 (by kernel_rfl) (by kernel_rfl) fun us u hR =>                                                                                                                                                 ⟨0, fun C E hC => by
 obtain ⟨s1,l1,s2,l2,h1,h2,c1,c2,rfl,hu⟩ := hR
 obtain ⟨t1,m1,k1,e1,f1⟩ := tI (hC 97 qAo (by simp) _ _ ⟨s1,l1,h1,by omega,rfl,rfl⟩)
 obtain ⟨t2,m2,k2,e2,f2⟩ := tI (hC 97 qAo (by simp) _ _ ⟨s2,l2,h2,by omega,rfl,rfl⟩)
 have b1 := qPg h1
 have b2 := qPg h2
 rw [qAm] at f1 f2
 rw [← qAm s1 l1] at f1 b1
 rw [← qAm s2 l2] at f2 b2
 generalize Z s1 l1 = x at *
 generalize Z s2 l2 = y at *
 have g1 : q0i m1 := f1 ▸ q0t _
 have g2 : q0i m2 := f2 ▸ q0t _
 have v1 : V m1 = x.natAbs := by rw [f1,V_N]
 have v2 : V m2 = y.natAbs := by rw [f2,V_N]
 have d1 : cnt m1 ≤ 100000 := by rw [f1,q2i]; omega
 have d2 : cnt m2 ≤ 100000 := by rw [f2,q2i]; omega
 have fin : ∀ (s : Bool) (n : Nat),Z s (N n) = x + y → len n ≤ len x.natAbs + len y.natAbs + 1 → ∃ s4 l4,C 96 [ub s,.l (N n)] (.agg [ub s4,.l l4]) ∧ u = .agg [ub s4,.l l4] := fun s n hz hn => by
  have hs := hC 96 q4v (by simp) _ _ ⟨s,N n,q0t _,by rw [q2i]; omega,rfl,rfl⟩
  rw [hz] at hs
  exact ⟨_,_,hs,hu⟩
 have L1 := qDh x.natAbs y.natAbs
 by_cases hc : t1 = t2
 ·have k3 := hC 99 q0f.R (by simp) _ _ (add1R g1 g2 (by omega) (by omega))
  rw [v1,v2] at k3
  obtain ⟨s4,l4,k4,hu'⟩ := fin t1 (x.natAbs + y.natAbs) (by unfold Z; rw [V_N,e1]; rw [e1,e2,decide_eq_decide] at hc; simp only [decide_eq_true_eq]; split <;> omega) (by omega)
  obtain ⟨l3,k3,e3⟩ := tN k3
  rw [← e3] at k4
  clear fin hu e3 e1 e2
  subst hc
  cases t1 <;> cbv <;> (repeat ((first | with_reducible refine bq ?_ | refine cl ?_); cbv)) <;> exact hu'.symm
 ·have kc := hC 100 q0n.R (by simp) _ _ (cmp1R g1 g2 (by omega) (by omega))
  rw [v1,v2] at kc
  by_cases hlt : x.natAbs < y.natAbs
  ·have k5 := hC 101 q0l.R (by simp) _ _ (sub1R g2 g1 (by omega) (by omega))
   rw [v1,v2] at k5
   rw [show q9a x.natAbs y.natAbs = -1 by unfold q9a; exact if_pos hlt] at kc
   obtain ⟨s4,l4,k4,hu'⟩ := fin t2 (y.natAbs - x.natAbs) (by unfold Z; rw [V_N,e2]; rw [e1,e2,decide_eq_decide] at hc; simp only [decide_eq_true_eq]; split <;> omega) (by have := q2h (a := y.natAbs - x.natAbs) (b := y.natAbs) (by omega); omega)
   generalize N (y.natAbs - x.natAbs) = l3 at *
   clear fin hu e1 e2
   cases t1 <;> cases t2 <;> first | exact absurd rfl hc | (cbv; (repeat ((first | refine ff ?_ | with_reducible refine bq ?_ | refine cl ?_); cbv)); exact hu'.symm)
  ·have k5 := hC 101 q0l.R (by simp) _ _ (sub1R g1 g2 (by omega) (by omega))
   rw [v1,v2] at k5
   obtain ⟨cv,kc,hcv⟩ : ∃ cv,C 100 [.l m1,.l m2] (ui cv) ∧ 0 ≤ cv := ⟨_,kc,by unfold q9a; rw [if_neg hlt]; split <;> omega⟩
   obtain ⟨s4,l4,k4,hu'⟩ := fin t1 (x.natAbs - y.natAbs) (by unfold Z; rw [V_N,e1]; rw [e1,e2,decide_eq_decide] at hc; simp only [decide_eq_true_eq]; split <;> omega) (by have := q2h (a := x.natAbs - y.natAbs) (b := x.natAbs) (by omega); omega)
   generalize N (x.natAbs - y.natAbs) = l3 at *
   clear fin hu e1 e2
   cases t1 <;> cases t2 <;> first | exact absurd rfl hc | (cbv; (repeat ((first | refine tt ?_ | with_reducible refine bq ?_ | refine cl ?_); cbv)); exact hu'.symm)⟩
def posR (us : List U) (u : U) : Prop := ∃ l,q0i l ∧ cnt l ≤ 1000000 ∧ us = [.l l] ∧ u = uI (V l : Int)
theorem pos_ok : q0w Tryz.prog 60 posR := sound [(96, q4v)] (q0c q5t q0v) Tryz.func60 (by kernel_rfl) (by kernel_rfl) fun us u hR =>                     ⟨0, fun C E hC => by
 obtain ⟨l,hl,hc,rfl,hu⟩ := hR
 obtain ⟨s1,l1,k1,e1,e2⟩ := tI (hC 96 q4v (by simp) _ _ ⟨false,l,hl,hc,rfl,rfl⟩)
 have hz : Z false l = (V l : Int) := rfl
 rw [hz] at e1 e2
 have hu' : u = .agg [ub s1,.l l1] := by rw [hu,e1,e2]; rfl
 clear hu e1 e2 hz
 cbv; (repeat ((refine cl ?_); cbv)); exact hu'.symm⟩
def q9d (q : Rat) : Prop := len q.num.natAbs ≤ 45000 ∧ len q.den ≤ 45000
theorem q7b {q : Rat} (h : fits q = true) : q9d q := by
 have := q2w h
 unfold q9d
 omega
theorem q7m {p : Rat} (hp : q9d p) : ∃ s l b,q0x p = (s,l,b) ∧ q0i l ∧ q0i b ∧ cnt l ≤ 45000 ∧ cnt b ≤ 45000 ∧ Z s l = p.num ∧ V b = p.den ∧ V l = p.num.natAbs ∧ s = decide (p.num < 0) :=
 ⟨_,_,_,rfl,q0t _,q0t _,by rw [q2i]; have := hp.1; omega,by rw [q2i]; have := hp.2; omega,qLr p,qHn p,V_N _,rfl⟩
def qUa (us : List U) (u : U) : Prop := ∃ p q : Rat,q9d p ∧ q9d q ∧ us = [uR (q0x p),uR (q0x q)] ∧ u = uR (q0x (p + q))
theorem qOv : q0w Tryz.prog 28 qUa := sound [(60, posR), (59, qKz), (58, j2h), (61, q0g.R), (57, qLw)] (q0c pos_ok (q0c qMp (q0c j4j (q0c q0g.sound (q0c qMy q0v))))) Tryz.func28 (by kernel_rfl) (by kernel_rfl) fun us u hR =>                                                                                       ⟨0, fun C E hC => by
 obtain ⟨p,q,hp,hq,rfl,hu⟩ := hR
 obtain ⟨s1,l1,b1,ep,f1,f2,f3,f4,f5,f6,f7,f8⟩ := q7m hp
 obtain ⟨s2,l2,b2,eq,g1,g2,g3,g4,g5,g6,g7,g8⟩ := q7m hq
 rw [ep,eq]
 unfold uR q9d at *
 dsimp only
 have q1 := hp
 have q2 := hq
 obtain ⟨s3,l3,k3,i3,i4⟩ := tI (hC 60 posR (by simp) _ _ ⟨b2,g2,by omega,rfl,rfl⟩)
 obtain ⟨s4,l4,k4,i5,i6⟩ := tI (hC 60 posR (by simp) _ _ ⟨b1,f2,by omega,rfl,rfl⟩)
 rw [g6,Int.natAbs_natCast] at i4
 rw [f6,Int.natAbs_natCast] at i6
 have z3 : Z s3 l3 = q.den := by rw [i3,i4,g6]; have := Z_I (q.den : Int); rw [I_1,I_2,Int.natAbs_natCast] at this; exact this
 have z4 : Z s4 l4 = p.den := by rw [i5,i6,f6]; have := Z_I (p.den : Int); rw [I_1,I_2,Int.natAbs_natCast] at this; exact this
 have k5 := hC 59 qKz (by simp) _ _ ⟨s1,l1,s3,l3,f1,i4 ▸ q0t _,by omega,by rw [i4,q2i]; omega,rfl,rfl⟩
 have k6 := hC 59 qKz (by simp) _ _ ⟨s2,l2,s4,l4,g1,i6 ▸ q0t _,by omega,by rw [i6,q2i]; omega,rfl,rfl⟩
 rw [f5,z3] at k5
 rw [g5,z4] at k6
 have m1 := q5g p.num q.den
 have m2 := q5g q.num p.den
 have m3 := q4s p.den q.den
 have m4 := qIh (p.num * q.den) (q.num * p.den)
 rw [Int.natAbs_natCast] at m1 m2
 obtain ⟨s5,l5,k5,i7,i8⟩ := tI k5
 obtain ⟨s6,l6,k6,j7,j8⟩ := tI k6
 have z5 : Z s5 l5 = p.num * q.den := by rw [i7,i8]; exact Z_I _
 have z6 : Z s6 l6 = q.num * p.den := by rw [j7,j8]; exact Z_I _
 obtain ⟨s7,l7,k7,i9,i10⟩ := tI (hC 58 j2h (by simp) _ _ ⟨s5,l5,s6,l6,i8 ▸ q0t _,j8 ▸ q0t _,by rw [i8,q2i]; omega,by rw [j8,q2i]; omega,rfl,rfl⟩)
 rw [z5,z6] at i9 i10
 obtain ⟨l8,k8,i11⟩ := tN (hC 61 q0g.R (by simp) _ _ (of2R f2 g2 (by omega) (by omega)))
 rw [f6,g6] at i11
 obtain ⟨s9,l9,b9,k9,i12⟩ := tR (hC 57 qLw (by simp) _ _ ⟨s7,l7,l8,i10 ▸ q0t _,i11 ▸ q0t _,by rw [i10,q2i]; omega,by rw [i11,q2i]; omega,by rw [i11,V_N]; exact Nat.mul_ne_zero p.den_nz q.den_nz,rfl,rfl⟩)
 rw [show Z s7 l7 = p.num * q.den + q.num * p.den by rw [i9,i10]; exact Z_I _,show V l8 = p.den * q.den by rw [i11,V_N],← Rat.add_def'] at i12
 rw [← i12] at hu
 clear ep eq i3 i4 i5 i6 i7 i8 i9 i10 i11 i12 z3 z4 z5 z6 m1 m2 m3 m4 q1 q2 f1 f2 f3 f4 f5 f6 f7 f8 g1 g2 g3 g4 g5 g6 g7 g8 hp hq j7 j8
 cbv; (repeat ((refine cl ?_); cbv)); exact hu.symm⟩
def qWi (us : List U) (u : U) : Prop := ∃ p q : Rat,fits p = true ∧ fits q = true ∧ us = [uR (q0x p),uR (q0x q)] ∧ u = uR (q0x (p + q))
theorem qRo : q0w Tryz.prog 28 qWi := fun us u ⟨p,q,h1,h2,h3,h4⟩ => qOv us u ⟨p,q,q7b h1,q7b h2,h3,h4⟩
def qDf (us : List U) (u : U) : Prop := ∃ p q : Rat,q9d p ∧ q9d q ∧ us = [uR (q0x p),uR (q0x q)] ∧ u = uR (q0x (p * q))
theorem qJd : q0w Tryz.prog 30 qDf := sound [(59, qKz), (61, q0g.R), (57, qLw)] (q0c qMp (q0c q0g.sound (q0c qMy q0v))) Tryz.func30 (by kernel_rfl) (by kernel_rfl) fun us u hR =>                                                                         ⟨0, fun C E hC => by
 obtain ⟨p,q,hp,hq,rfl,hu⟩ := hR
 obtain ⟨s1,l1,b1,ep,f1,f2,f3,f4,f5,f6,f7,f8⟩ := q7m hp
 obtain ⟨s,l,b,eq,g1,g2,g3,g4,g5,g6,g7,g8⟩ := q7m hq
 rw [ep,eq]
 unfold q9d at *
 have k1 := hC 59 qKz (by simp) _ _ ⟨s1,l1,s,l,f1,g1,by omega,by omega,rfl,rfl⟩
 rw [f5,g5] at k1
 have k2 := hC 61 q0g.R (by simp) _ _ (of2R f2 g2 (by omega) (by omega))
 rw [f6,g6] at k2
 have m1 := q5g p.num q.num
 have m2 := q4s p.den q.den
 obtain ⟨s2,l2,k1,i1,i2⟩ := tI k1
 obtain ⟨l3,k2,i3⟩ := tN k2
 obtain ⟨s4,l4,b4,k3,i4⟩ := tR (hC 57 qLw (by simp) _ _ ⟨s2,l2,l3,i2 ▸ q0t _,i3 ▸ q0t _,by rw [i2,q2i]; omega,by rw [i3,q2i]; omega,by rw [i3,V_N]; exact Nat.mul_ne_zero p.den_nz q.den_nz,rfl,rfl⟩)
 rw [show Z s2 l2 = p.num * q.num by rw [i1,i2]; exact Z_I _,show V l3 = p.den * q.den by rw [i3,V_N],← Rat.mul_def'] at i4
 rw [← i4] at hu
 clear ep eq i1 i2 i3 i4 m1 m2 f1 f2 f3 f4 f5 f6 f7 f8 g1 g2 g3 g4 g5 g6 g7 g8 hp hq
 cbv; (repeat ((refine cl ?_); cbv)); exact hu.symm⟩
def qWo (us : List U) (u : U) : Prop := ∃ a : R3,LB a ∧ us = [uR a] ∧ u = uR (qEl a)
theorem qWw : q0w Tryz.prog 29 qWo := sound [(46, q3p), (62, j2f), (63, q0a.R)] (q0c q6y (q0c j1i (q0c q0a.sound q0v))) Tryz.func29 (by kernel_rfl) (by kernel_rfl) fun us u hR =>                                                                          ⟨0, fun C E hC => by
 obtain ⟨⟨s,l,b⟩,ha,rfl,hu⟩ := hR
 have k1 := hC 46 q3p (by simp) _ _ ⟨_,ha,rfl,rfl⟩
 unfold qEl at hu
 by_cases h : q1r (s,l,b) = true
 ·rw [if_pos h] at hu
  rw [h] at k1
  obtain ⟨p,hp,e1,f1,f2,f3,f4,f5,f6,f7,f8⟩ := q3u h
  rw [e1] at hu
  obtain ⟨s1,l1,k2,i1,i2⟩ := tI (hC 62 j2f (by simp) _ _ ⟨s,l,f1,by omega,rfl,rfl⟩)
  obtain ⟨l2,k3,i3⟩ := tN (hC 63 q0a.R (by simp) _ _ (j1g f2 (by omega)))
  rw [f5] at i1 i2
  rw [f6] at i3
  have hu' : u = .agg [ub s1,.l l1,.l l2] := by
   rw [hu,i1,i2,i3]
   unfold uR q0x
   rw [Rat.neg_num,Rat.neg_den]
  clear hu i1 i2 i3 h e1 f1 f2 f3 f4 f5 f6 f7 f8 ha hp
  cbv; (repeat ((first | with_reducible refine bq ?_ | refine cl ?_); cbv)); exact hu'.symm
 ·rw [if_neg h] at hu
  rw [Bool.eq_false_iff.2 h] at k1
  clear h ha
  cbv; (repeat ((first | with_reducible refine bq ?_ | refine cl ?_); cbv)); exact hu.symm⟩
def qHy (f : R3 → R3 → R4) (us : List U) (u : U) : Prop := ∃ a b : R3,LB a ∧ LB b ∧ us = [uR a,uR b] ∧ u = u76 (f a b)
theorem qX (n : Nat) : 0 < cnt (N n) ↔ n ≠ 0 := by
 rw [q2i]
 have : len n = 0 ↔ n = 0 := ⟨fun h => by have := q7l n; rw [h] at this; simpa using this,fun h => by rw [h]; show (N 0).length = 0; rw [q5j]; rfl⟩
 omega
def qTt (us : List U) (u : U) : Prop := ∃ p : Rat,us = [uR (q0x p)] ∧ u = uR (q0x (-p))
theorem qXq : q0w Tryz.prog 51 qTt := sound [] q0v Tryz.func51 (by kernel_rfl) (by kernel_rfl) fun us u hR =>                ⟨0, fun C E hC => by
 obtain ⟨p,rfl,hu⟩ := hR
 have e : q0x (-p) = (decide (-p.num < 0),N p.num.natAbs,N p.den) := by unfold q0x; rw [Rat.neg_num,Rat.neg_den,Int.natAbs_neg]
 rw [e] at hu
 have hp := qX p.num.natAbs
 unfold uR q0x at *
 dsimp only at *
 have hu' : ∀ b : Bool,b = decide (-p.num < 0) → u = .agg [ub b,.l (N p.num.natAbs),.l (N p.den)] := fun b hb => by rw [hu,hb]
 have h0 := q6s (N p.num.natAbs)
 generalize N p.num.natAbs = l at *
 generalize N p.den = d at *
 rcases Int.lt_trichotomy p.num 0 with h | h | h
 ·rw [decide_eq_true h]
  have hu := hu' false (decide_eq_false (by omega)).symm
  clear hu' hC
  cbv; (repeat ((with_reducible refine bq ?_); cbv)); exact hu.symm
 ·rw [decide_eq_false (by omega)]
  have hl : ¬ 0 < cnt l := fun h1 => hp.1 h1 (by omega)
  have hu := hu' false (decide_eq_false (by omega)).symm
  clear hu' hC hp
  cbv; (repeat ((first | with_reducible refine ln fun _ _ _ => ?_ | refine ff ?_ | with_reducible refine bq ?_); cbv)); exact hu.symm
 ·rw [decide_eq_false (by omega)]
  have hl : 0 < cnt l := hp.2 (by omega)
  have hu := hu' true (decide_eq_true (by omega)).symm
  clear hu' hC hp
  cbv; (repeat ((first | with_reducible refine ln fun _ _ _ => ?_ | refine tt ?_ | with_reducible refine bq ?_); cbv)); exact hu.symm⟩
def q8b (us : List U) (u : U) : Prop := ∃ p : Rat,p ≠ 0 ∧ us = [uR (q0x p)] ∧ u = uR (q0x p⁻¹)
theorem qDm : q0w Tryz.prog 52 q8b := sound [] q0v Tryz.func52 (by kernel_rfl) (by kernel_rfl) fun us u hR =>                      ⟨0, fun C E hC => by
 obtain ⟨p,h0,rfl,hu⟩ := hR
 obtain ⟨i1,i2⟩ := qCu p h0
 have hs : decide ((p⁻¹).num < 0) = decide (p.num < 0) := by
  have hn : p.num ≠ 0 := fun h => h0 (by rw [← Rat.mkRat_self p,h]; simp)
  rw [qOs p hn]
  have := (q6f (if p.num < 0 then -(p.den : Int) else (p.den : Int)) p.num.natAbs (by omega)).2.2
  rw [this,decide_eq_decide]
  have := p.den_pos
  split <;> omega
 have e : q0x p⁻¹ = (decide (p.num < 0),N p.den,N p.num.natAbs) := by unfold q0x; rw [hs,i1,i2]
 rw [e] at hu
 unfold uR q0x at *
 dsimp only at *
 generalize N p.num.natAbs = l at *
 generalize N p.den = d at *
 generalize decide (p.num < 0) = b at *
 clear hs e i1 i2 h0
 cbv; (repeat ((first | with_reducible refine ln fun _ _ _ => ?_ | refine tt ?_ | refine ff ?_ | refine tt ?_ rfl | with_reducible refine wr fun _ _ => ?_ | with_reducible refine wu fun _ _ => ?_ | refine rp fun _ _ _ => ?_ | refine cp fun _ => ?_ | with_reducible refine bq ?_ | refine cl ?_ | refine sd ?_); cbv)); exact hu.symm⟩
def qNf (us : List U) (u : U) : Prop := ∃ p : Rat,fits p = true ∧ us = [uR (q0x p)] ∧ u = ub true
theorem qVs : q0w Tryz.prog 25 qNf := sound [] q0v Tryz.func25 (by kernel_rfl) (by kernel_rfl) fun us u hR =>                  ⟨0, fun C E hC => by
 obtain ⟨p,hp,rfl,hu⟩ := hR
 obtain ⟨s,l,d,e,_,_,h3,h4,_⟩ := q7m (q7b hp)
 have hf := q2w hp
 have h1 : cnt l ≤ 64 := by have := congrArg (fun a : R3 => cnt a.2.1) e; have h2 := q2i p.num.natAbs; unfold q0x at this; dsimp only at this; omega
 have h2 : cnt d ≤ 64 := by have := congrArg (fun a : R3 => cnt a.2.2) e; have h2 := q2i p.den; unfold q0x at this; dsimp only at this; omega
 rw [e]
 unfold uR
 clear e hf
 cbv; (repeat ((first | with_reducible refine ln fun _ _ _ => ?_ | refine tt ?_); cbv)); exact hu.symm⟩
theorem qNu {p : Rat} (hp : fits p = true) (n : Int) (e : Nat) (hn : n.natAbs ≤ 1000) (he : e ≤ 20) : q9d ((n : Rat) * p ^ e) := by
 obtain ⟨h1,h2⟩ := q2w hp
 have l1 := q6q (n : Rat) (p ^ e)
 have l2 := qDl p.num.natAbs e
 have l3 := qDl p.den e
 have l4 : len (n : Rat).num.natAbs ≤ 1 := by
  rw [Rat.num_intCast]
  exact q2x.2 (by omega)
 have l5 : len (n : Rat).den ≤ 1 := by
  rw [Rat.den_intCast]
  exact q2x.2 (by omega)
 have e1 : (p ^ e).num.natAbs = p.num.natAbs ^ e := by rw [Rat.num_pow,Int.natAbs_pow]
 have e2 : (p ^ e).den = p.den ^ e := Rat.den_pow ..
 rw [e1,e2] at l1
 have b1 : e * len p.num.natAbs ≤ 20 * 64 := Nat.mul_le_mul he h1
 have b2 : e * len p.den ≤ 20 * 64 := Nat.mul_le_mul he h2
 unfold q9d
 omega
def qGo (us : List U) (u : U) : Prop := ∃ (p : Rat) (n : Int),fits p = true ∧ -6 ≤ n ∧ n ≤ 6 ∧ (n < 0 → p ≠ 0) ∧ us = [uR (q0x p),ui n] ∧ u = uR (q0x ((n : Rat) * p ^ (n - 1)))
theorem qQn : q0w Tryz.prog 53 qGo := sound [(40,q6j),(30,qDf),(52,q8b)] (q0c qBa (q0c qJd (q0c qDm q0v))) Tryz.func53 (by kernel_rfl) (by kernel_rfl) fun us u hR => by
 obtain ⟨p,n,hp,hn0,hn1,hz,rfl,hu⟩ := hR
 obtain ⟨r,hr⟩ : ∃ r,r = 20 := ⟨_,rfl⟩
 refine ⟨r,fun C E hC => ?_⟩
 have kT := hC 30 qDf (by simp)
 have kU := fun h => hC 52 q8b (by simp) _ _ ⟨p,h,rfl,rfl⟩
 obtain ⟨s0,l0,d0,k0,e0⟩ := tR (hC 40 q6j (by simp) _ _ ⟨n,by omega,by omega,rfl,rfl⟩)
 obtain ⟨sp,lp,dp,ep⟩ : ∃ s l d,q0x p = (s,l,d) := ⟨_,_,_,rfl⟩
 -- one factor more
 obtain ⟨F,hF⟩ : ∃ F : Int → R3 → Prop,F = fun q v => v = q0x ((n : Rat) * p ^ (q - 1).toNat) := ⟨_,rfl⟩
 obtain ⟨G,hG⟩ : ∃ G : Int → R3 → Prop,G = fun q v => v = q0x ((n : Rat) * p⁻¹ ^ (1 - q).toNat) := ⟨_,rfl⟩
 have kF : ∀ (q : Int) s l d,1 ≤ q → q ≤ 8 → F q (s,l,d) → ∃ s' l' d',C 30 [.agg [ub s,.l l,.l d],.agg [ub sp,.l lp,.l dp]] (.agg [ub s',.l l',.l d']) ∧ F (q + 1) (s',l',d') := fun q s l d h1 h2 h => by
  rw [hF] at h ⊢
  have := kT _ _ ⟨(n : Rat) * p ^ (q - 1).toNat,p,qNu hp n _ (by omega) (by omega),q7b hp,rfl,rfl⟩
  rw [← h,ep,Rat.mul_assoc,← Rat.pow_succ,show (q - 1).toNat + 1 = (q + 1 - 1).toNat by omega] at this
  exact tR this
 have kG : p ≠ 0 → ∃ s l d,C 52 [.agg [ub sp,.l lp,.l dp]] (.agg [ub s,.l l,.l d]) ∧ (s,l,d) = q0x p⁻¹ := fun h => by
  have := kU h
  rw [ep] at this
  exact tR this
 have kH : p ≠ 0 → ∀ s2 l2 d2,(s2,l2,d2) = q0x p⁻¹ → ∀ (q : Int) s l d,-7 ≤ q → q ≤ 1 → G q (s,l,d) → ∃ s' l' d',C 30 [.agg [ub s,.l l,.l d],.agg [ub s2,.l l2,.l d2]] (.agg [ub s',.l l',.l d']) ∧ G (q - 1) (s',l',d') := fun h0 s2 l2 d2 h2 q s l d h3 h4 h => by
  rw [hG] at h ⊢
  have := kT _ _ ⟨(n : Rat) * p⁻¹ ^ (1 - q).toNat,p⁻¹,qNu (q7v hp h0) n _ (by omega) (by omega),q7b (q7v hp h0),rfl,rfl⟩
  rw [← h,← h2,Rat.mul_assoc,← Rat.pow_succ,show (1 - q).toNat + 1 = (1 - (q - 1)).toNat by omega] at this
  exact tR this
 have hv0 : F 1 (s0,l0,d0) := by rw [hF]; dsimp only; rw [e0]; rw [show ((1 : Int) - 1).toNat = 0 from rfl,Rat.pow_zero,Rat.mul_one]
 have hpos : ∀ (q : Int) s l d,q = n → F q (s,l,d) → u = .agg [ub s,.l l,.l d] ∨ n < 1 := fun q s l d hq h => by
  rcases Int.lt_or_le n 1 with h1 | h1
  ·exact .inr h1
  ·rw [hF] at h
   rw [hu,show n - 1 = (((q - 1).toNat : Nat) : Int) by omega,Rat.zpow_natCast,← h]
   exact .inl rfl
 have hzero : n = 0 → ∀ s l d,F 1 (s,l,d) → u = .agg [ub s,.l l,.l d] := fun hn s l d h => by
  rw [hF] at h
  rw [hu,hn,show ((0 : Int) : Rat) = 0 from rfl,Rat.zero_mul]
  rw [hn,show ((0 : Int) : Rat) = 0 from rfl,Rat.zero_mul] at h
  rw [← h]
  rfl
 have hneg : n < 0 → ∀ (q : Int) s l d,q = n → G q (s,l,d) → u = .agg [ub s,.l l,.l d] := fun hn q s l d hq h => by
  rw [hG] at h
  rw [hu,show n - 1 = -(((1 - q).toNat : Nat) : Int) by omega,qCn,← qNb,← h]
  rfl
 have hswap : ∀ s l d,F 1 (s,l,d) → G 1 (s,l,d) := fun s l d h => by
  rw [hF] at h
  rw [hG]
  show (s,l,d) = q0x ((n : Rat) * p⁻¹ ^ ((1 : Int) - 1).toNat)
  rw [h,show ((1 : Int) - 1).toNat = 0 from rfl,Rat.pow_zero,Rat.pow_zero]
 have hz2 : n < 0 → ∃ s l d,C 52 [.agg [ub sp,.l lp,.l dp]] (.agg [ub s,.l l,.l d]) ∧ ∀ (q : Int) s' l' d',-7 ≤ q → q ≤ 1 → G q (s',l',d') → ∃ s1 l1 d1,C 30 [.agg [ub s',.l l',.l d'],.agg [ub s,.l l,.l d]] (.agg [ub s1,.l l1,.l d1]) ∧ G (q - 1) (s1,l1,d1) := fun h => by
  obtain ⟨s2,l2,d2,k2,e2⟩ := kG (hz h)
  exact ⟨s2,l2,d2,k2,kH (hz h) s2 l2 d2 e2⟩
 have hr' : r = 20 := hr
 rw [ep]
 clear hC kT kU kG kH hF hG hz hu ep e0 hp
 cbv
 (repeat ((refine cl ?_); cbv))
 refine q4n [1,2,4,5,6] ?_
 cbv
 refine q2g (fun j a h => ∃ (q : Int) (s : Bool) (l d : List Int),1 ≤ q ∧ (q ≤ n ∨ q = 1) ∧ j = (n - q).toNat ∧ F q (s,l,d) ∧ a = [.lost,ui n,.ptr 0 0,.lost,.ptr 1 0,.ptr 2 0,ui q,.lost,.lost,.lost,.lost,.lost,.lost,.lost,.lost,.lost,.lost,.lost,.lost,.lost,.lost,.lost,.lost,.lost,.lost,.lost,.lost,.lost,.lost,.lost,.lost,.lost] ∧ h = [some (.cells [ub sp,.l lp,.l dp]),some (.cells [ub false,.l [],.l []]),some (.cells [ub s,.l l,.l d])]) ?_ r (n - 1).toNat _ _ (by omega) ⟨1,s0,l0,d0,by omega,.inr rfl,rfl,hv0,rfl,rfl⟩
 clear hv0 k0
 rintro j a h K ⟨q,s,l,d,hq,hqn,hj,hv,rfl,rfl⟩ hK
 rcases Decidable.em (q < n) with hlt | hlt
 ·obtain ⟨s',l',d',k1,hv'⟩ := kF q s l d hq (by omega) hv
  have hK' := hK (n - (q + 1)).toNat _ _ (by omega) ⟨q + 1,s',l',d',by omega,.inl (by omega),rfl,hv',rfl,rfl⟩
  clear hK kF hz2 hpos hzero hneg hswap
  cbv
  (repeat ((first | refine tt ?_ | with_reducible refine wr fun _ _ => ?_ | refine cl ?_); cbv))
  rename_i q' hq'
  refine q4n [1,2,4,5,6] ?_
  rw [hq']
  exact hK'
 clear hK kF
 rcases Decidable.em (n < 0) with hn | hn
 ·have hq1 : q = 1 := by omega
  subst hq1
  replace hv := hswap s l d hv
  obtain ⟨s2,l2,d2,k2,kH⟩ := hz2 hn
  replace hneg := hneg hn
  clear hpos hzero hz2 hswap hqn hq
  cbv
  (repeat ((refine ff ?_); cbv))
  refine q4n [1,2,4,5,7] ?_
  cbv
  refine q2g (fun j a h => ∃ (q : Int) (s : Bool) (l d : List Int),q ≤ 1 ∧ n ≤ q ∧ j = (q - n).toNat ∧ G q (s,l,d) ∧ a = [.lost,ui n,.ptr 0 0,.lost,.ptr 1 0,.ptr 2 0,.lost,ui q,.lost,.lost,.lost,.lost,.lost,.lost,.lost,.lost,.lost,.lost,.lost,.lost,.lost,.lost,.lost,.lost,.lost,.lost,.lost,.lost,.lost,.lost,.lost,.lost] ∧ h = [some (.cells [ub sp,.l lp,.l dp]),some (.cells [ub false,.l [],.l []]),some (.cells [ub s,.l l,.l d])]) ?_ r (1 - n).toNat _ _ (by omega) ⟨1,s,l,d,by omega,by omega,rfl,hv,rfl,rfl⟩
  clear hv
  rintro j a h K ⟨q,s,l,d,hq,hqn,hj,hv,rfl,rfl⟩ hK
  rcases Decidable.em (n < q) with hlt | hlt
  ·obtain ⟨s',l',d',k1,hv'⟩ := kH q s l d (by omega) (by omega) hv
   have hK' := hK (q - 1 - n).toNat _ _ (by omega) ⟨q - 1,s',l',d',by omega,by omega,rfl,hv',rfl,rfl⟩
   clear hK kH hv hv' hneg
   cbv
   (repeat ((first | refine tt ?_ | with_reducible refine wr fun _ _ => ?_ | refine cl ?_); cbv))
   rename_i q' hq'
   refine q4n [1,2,4,5,7] ?_
   rw [hq']
   exact hK'
  have hu := hneg q s l d (by omega) hv
  clear hK kH hv hneg
  cbv
  (repeat ((refine ff ?_); cbv))
  exact hu.symm
 ·have hu : u = .agg [ub s,.l l,.l d] := by
   rcases Decidable.em (n = 0) with h0 | h0
   ·have hq1 : q = 1 := by omega
    subst hq1
    exact hzero h0 s l d hv
   ·exact (hpos q s l d (by omega) hv).resolve_right (by omega)
  clear hv hpos hzero hz2 hneg hswap
  cbv
  (repeat ((refine ff ?_); cbv))
  refine q4n [1,2,4,5,7] ?_
  cbv
  refine q2g (fun j a h => a = [.lost,ui n,.ptr 0 0,.lost,.ptr 1 0,.ptr 2 0,.lost,ui 1,.lost,.lost,.lost,.lost,.lost,.lost,.lost,.lost,.lost,.lost,.lost,.lost,.lost,.lost,.lost,.lost,.lost,.lost,.lost,.lost,.lost,.lost,.lost,.lost] ∧ h = [some (.cells [ub sp,.l lp,.l dp]),some (.cells [ub false,.l [],.l []]),some (.cells [ub s,.l l,.l d])]) ?_ r 0 _ _ (by omega) ⟨rfl,rfl⟩
  rintro j a h K ⟨rfl,rfl⟩ hK
  clear hK
  rcases Decidable.em (n < 1) with h1 | h1
  ·cbv
   (repeat ((first | refine tt ?_ | refine ff ?_); cbv))
   exact hu.symm
  ·cbv
   (repeat ((refine ff ?_); cbv))
   exact hu.symm
end Go.Proofs.YtjkcmnedolfkjaaGreat.Rd
end
section
set_option linter.unusedVariables false
set_option linter.unusedSimpArgs false
namespace Go.Proofs.YtjkcmnedolfkjaaGreat.Rd
open Go Go.RowKit Go.Proofs.YtjkcmnedolfkjaaGreatW.PrintWords Go.Conc.Locks
def muLink : MuLink := { lock := 135,unlock := 136,ilock := 148,iunlock := 149,lockSlow := 166,unlockSlow := 169,disable := 162,enable := 164,acquire := 165,relMerge := 167,cas32 := 163,add32 := 168,tMutex := 94,tIMutex := 92,tPMutex := 169,tPIMutex := 180,tPI32 := 182,tUP := 184,tNoCopy := 86,tU32 := 88 }
theorem muLib : MuLib Tryz.prog muLink :=
 ⟨Tryz.func135,Tryz.func136,Tryz.func148,Tryz.func149,Tryz.func162,Tryz.func164,Tryz.func165,Tryz.func167,Tryz.func163,Tryz.func168,Tryz.underlying92,Tryz.runUnderlying92,Tryz.sizeOf92,Tryz.isAgg92,Tryz.zeroValue92,Tryz.underlying94,Tryz.runUnderlying94,Tryz.sizeOf94,Tryz.isAgg94,Tryz.zeroValue94,Tryz.underlying169,Tryz.runUnderlying169,Tryz.sizeOf169,Tryz.isAgg169,Tryz.zeroValue169,Tryz.underlying180,Tryz.runUnderlying180,Tryz.sizeOf180,Tryz.isAgg180,Tryz.zeroValue180,Tryz.underlying182,Tryz.runUnderlying182,Tryz.sizeOf182,Tryz.isAgg182,Tryz.zeroValue182,Tryz.underlying184,Tryz.runUnderlying184,Tryz.sizeOf184,Tryz.isAgg184,Tryz.zeroValue184,Tryz.underlying86,Tryz.runUnderlying86,Tryz.sizeOf86,Tryz.isAgg86,Tryz.zeroValue86,Tryz.underlying21,Tryz.runUnderlying21,Tryz.sizeOf21,Tryz.isAgg21,Tryz.zeroValue21,(by kernel_rfl)⟩
theorem qFa (a : Addr) (x : Value) (u : FrameMode) (w : World) (hc : w.cell? a = some x) (hz : w.frozen? a = false) :
  CallsD Tryz.prog 137 #[.pointer (some a),.bool true] u w fun e u' w' => u' = u ∧ (e = .returned (.tuple #[]) ∧ w' = w.drew.setCell a (.int .u32 1)) := by
 have hc' : w.drew.cell? a = some x := by go_simp
 have hz' : w.drew.frozen? a = false := by go_simp
 have hst := run_call_store (P := Tryz.prog) Tryz.func150 (by kernel_rfl) (by kernel_rfl) (by kernel_rfl) (by kernel_rfl) (k := .u32) (y := 1) hc' hz'
 go_enter_d Tryz.func137,Tryz.ntmps137
 go_wp2
 go_region_calls
 all_goals (go_end0; exact ⟨rfl,rfl⟩)
set_option maxRecDepth 100000 in
set_option maxHeartbeats 1600000 in
/-- not done, the lock free -/
theorem j2i (b off : Nat) (g : FuncId) (vs : Array Value) (w : World) (hB : q9n Tryz.prog g) (QQ : World → Prop)
  (h0 : w.cell? ⟨b,off,none⟩ = some (.int .u32 0)) (h1 : w.cell? ⟨b,off + 1,none⟩ = some (.int .i32 0)) (f1 : w.frozen? ⟨b,off + 1,none⟩ = false)
  (hg : Calls Tryz.prog g vs (w.setCell ⟨b,off + 1,none⟩ (.int .i32 1)) fun e w' => (∃ v,e = .returned v) ∧ w'.cell? ⟨b,off,none⟩ = some (.int .u32 0) ∧ w'.cell? ⟨b,off + 1,none⟩ = some (.int .i32 1) ∧ w'.frozen? ⟨b,off,none⟩ = false ∧ w'.frozen? ⟨b,off + 1,none⟩ = false ∧ QQ w') :
  Calls Tryz.prog 112 #[.pointer (some ⟨b,off,none⟩),.func (.func g) #[] vs] w fun e w' => e = .returned (.tuple #[]) ∧ ∃ w1,QQ w1 ∧ w1.cell? ⟨b,off,none⟩ = some (.int .u32 0) ∧ w1.cell? ⟨b,off + 1,none⟩ = some (.int .i32 1) ∧ w' = (w1.drew.setCell ⟨b,off,none⟩ (.int .u32 1)).setCell ⟨b,off + 1,none⟩ (.int .i32 0) := by
 have hl := run_call_load (P := Tryz.prog) Tryz.func134 (by kernel_rfl) (by kernel_rfl) (by kernel_rfl) .u32 (by kernel_rfl) (w := w.setCell ⟨b,off + 1,none⟩ (.int .i32 1)) (a := ⟨b,off,none⟩) (x := 0) ((World.cell?_setCell_other _ ⟨b,off + 1,none⟩ ⟨b,off,none⟩ _ (by simp)).trans h0)
 have hnot : ∀ (x : Bool) (w : World),(Op.unary .not (.bool x)).run Tryz.prog w = .ok (.bool (!x)) w := fun _ _ => rfl
 obtain ⟨gn,gb,g1,g2,g3⟩ := hB
 have hin := fun args w => Go.MuLone.run_callFunc_enter (P := Tryz.prog) g1 g2 g3 args w
 go_enter_defers Tryz.func112,Tryz.ntmps112
 go_wp2_with (go_at_call 135; refine (Go.MuLone.lock_free muLib ⟨b,off + 1,none⟩ _ (by go_simp) (by go_simp)).mono ?_; rintro e w' ⟨rfl,rfl⟩)
 go_wp2
 refine hg.mono ?_
 rintro e w' ⟨⟨v,rfl⟩,q0,q1,z0,z1,hq⟩
 go_wp2
 refine leaves_cons (f := 137) (args := #[.pointer (some ⟨b,off,none⟩),.bool true]) (by simp) (by simp [go_sem]) ?_
 refine (qFa ⟨b,off,none⟩ (.int .u32 0) .returning _ q0 z0).mono ?_
 rintro e u' w'' ⟨rfl,rfl,rfl⟩
 refine leaves_cons (f := 136) (args := #[.pointer (some ⟨b,off + 1,none⟩)]) (by simp [settle]) (by simp [go_sem]) ?_
 refine (Go.MuLone.unlock_deferred muLib ⟨b,off + 1,none⟩ _ _ ?_ (by simp [z1])).mono ?_
 ·refine (World.cell?_setCell_other _ ⟨b,off,none⟩ ⟨b,off + 1,none⟩ _ (by simp)).trans ?_
  rw [World.cell?_drew]
  exact q1
 rintro e u' w'' ⟨rfl,rfl,rfl⟩
 simp [Leaves,settle,results,Tryz.results112]
 exact ⟨w',hq,q0,q1,rfl⟩
set_option maxRecDepth 100000 in
set_option maxHeartbeats 1600000 in
theorem do_in (b off : Nat) (g : FuncId) (vs : Array Value) (w : World) (hB : q9n Tryz.prog g) (QQ : World → Prop)
  (h0 : w.cell? ⟨b,off,none⟩ = some (.int .u32 0)) (h1 : w.cell? ⟨b,off + 1,none⟩ = some (.int .i32 0)) (f1 : w.frozen? ⟨b,off + 1,none⟩ = false)
  (hg : Calls Tryz.prog g vs (w.setCell ⟨b,off + 1,none⟩ (.int .i32 1)) fun e w' => (∃ v,e = .returned v) ∧ w'.cell? ⟨b,off,none⟩ = some (.int .u32 0) ∧ w'.cell? ⟨b,off + 1,none⟩ = some (.int .i32 1) ∧ w'.frozen? ⟨b,off,none⟩ = false ∧ w'.frozen? ⟨b,off + 1,none⟩ = false ∧ QQ w') :
  Calls Tryz.prog 78 #[.pointer (some ⟨b,off,none⟩),.func (.func g) #[] vs] w fun e w' => e = .returned (.tuple #[]) ∧ ∃ w1,QQ w1 ∧ w1.cell? ⟨b,off,none⟩ = some (.int .u32 0) ∧ w1.cell? ⟨b,off + 1,none⟩ = some (.int .i32 1) ∧ w' = (w1.drew.setCell ⟨b,off,none⟩ (.int .u32 1)).setCell ⟨b,off + 1,none⟩ (.int .i32 0) := by
 have hl := run_call_load (P := Tryz.prog) Tryz.func134 (by kernel_rfl) (by kernel_rfl) (by kernel_rfl) .u32 (by kernel_rfl) h0
 have hnot : ∀ (x : Bool) (w : World),(Op.unary .not (.bool x)).run Tryz.prog w = .ok (.bool (!x)) w := fun _ _ => rfl
 go_enter Tryz.func78,Tryz.ntmps78
 go_wp2_with (first | (go_at_call 112; refine (j2i b off g vs _ hB QQ h0 h1 f1 hg).mono ?_; rintro e w' ⟨rfl,h⟩) | (go_at_call 111; go_in))
 go_end0
 exact ⟨rfl,h⟩
theorem setc {m : Map} {base : Nat} {S : Nat → Prop} {W : World} {H : q1f} {id b j : Nat} {ws : List U} {u0 : U} (hp : Hp m S base W (q1q H)) (hws : q0r H id = some (.cells ws)) (hb : m id = some b) (hj : ws[j]? = some u0) (x : Value) (hx : x.oneCell' = true) :
  Hp m S base (W.setCell ⟨b,j,none⟩ x) (q1q (H.set id (some (.cells (ws.set j (.v x)))))) ∧ q4u m (own m (q1q H)) W m (own m (q1q (H.set id (some (.cells (ws.set j (.v x))))))) (W.setCell ⟨b,j,none⟩ x) ∧ W.frozen? ⟨b,j,none⟩ = false := by
 obtain ⟨b',vs,te,g1,g2,g3,g4⟩ := hp.at_ id _ hws
 rw [hb] at g1
 injection g1 with g1
 subst g1
 obtain ⟨v,f1,f2⟩ := Reps.nth g3 hj
 have e : W.setCell ⟨b,j,none⟩ x = W.setRow b (vs.set j x).toArray := by
  rw [setCell_eq_setRow W b j _ te (0,0) _ g2,show vs.toArray.setIfInBounds j x = (vs.set j x).toArray by simp]
 have g := q4u.write (W' := W.setRow b (vs.set j x).toArray) (ob := .cells (ws.set j (.v x))) (show q1q H id _ from hws) hb (fun k hk => setRow_other W b k _ hk) (by simp) rfl rfl rfl
 have hr : (Ob.cells (ws.set j (.v x))).rep (q3o base S (own m (q1q H))) W m (vs.set j x) := by
  have := Reps.put g3 (cs := [.v x]) (ws := [x]) ⟨rfl,trivial⟩ j
  have hlt := (List.getElem?_eq_some_iff.1 hj).1
  have hlt' := (List.getElem?_eq_some_iff.1 f1).1
  show Reps _ _ _ (ws.set j _) _
  rw [List.set_eq_take_append_cons_drop,if_pos hlt,List.set_eq_take_append_cons_drop,if_pos hlt']
  simpa using this
 have p := hp.write (show q1q H id _ from hws) hb hr  (fun v hv => by
  rcases List.mem_or_eq_of_mem_set hv with h | rfl
  ·exact g4 v h
  ·exact hx) (setRow_heap W b _ _ _ _ g2) g (fun k hk => setRow_other W b k _ hk)
 rw [qPq (show q1q H id _ from hws)] at g p
 rw [e]
 exact ⟨p,g,qGd g2⟩
def doR (g : FuncId) (RC : HR) : HR := fun us h k => ∃ id off cs ws,us = [.ptr id off,.clo g cs] ∧ q0r h id = some (.cells ws) ∧ ws[off]? = some (.v (.int .u32 0)) ∧ ws[off + 1]? = some (.v (.int .i32 0)) ∧
 RC cs (h.set id (some (.cells (ws.set (off + 1) (.v (.int .i32 1)))))) fun _ h' => ∃ ws',q0r h' id = some (.cells ws') ∧ ws'[off]? = some (.v (.int .u32 0)) ∧ ws'[off + 1]? = some (.v (.int .i32 1)) ∧
  k (.tup []) (h'.set id (some (.cells ((ws'.set off (.v (.int .u32 1))).set (off + 1) (.v (.int .i32 0))))))
theorem do_ok {g : FuncId} {RC : HR} (hC : q5w Tryz.prog g RC) : q5w Tryz.prog 78 (doR g RC) := by
 refine ⟨⟨Tryz.f78,_,Tryz.func78,by kernel_rfl,rfl⟩,fun base S us H k hR m W vs hp hfr hbig hvs => ?_⟩
 obtain ⟨id,off,cs,ws,rfl,hws,h0,h1,hk⟩ := hR
 match vs,hvs with
 | [v1,v2],⟨⟨b,r1,r2⟩,⟨xs,r3,r4⟩,_⟩ =>
  subst r2 r3
  obtain ⟨x0,c0,q0,_⟩ := hp.cell (show q1q H id _ from hws) h0 r1
  obtain ⟨x1,c1,q1,_⟩ := hp.cell (show q1q H id _ from hws) h1 r1
  have q0 : x0 = _ := q0
  have q1 : x1 = _ := q1
  subst q0 q1
  obtain ⟨p1,g1,z1⟩ := setc hp hws r1 h1 (.int .i32 1) rfl
  have hcall := hC.2 base S cs _ _ hk m _ xs p1 (fun id hid => hfr id (by simpa using hid)) (Nat.le_trans hbig g1.size) (Reps.move g1.lasts _ _ r4)
  refine (do_in b off g xs.toArray W hC.1 (fun w1 => ∃ H1 m1 ws', q0r H1 id = some (.cells ws') ∧ ws'[off]? = some (.v (.int .u32 0)) ∧ ws'[off + 1]? = some (.v (.int .i32 1)) ∧
   k (.tup []) (H1.set id (some (.cells ((ws'.set off (.v (.int .u32 1))).set (off + 1) (.v (.int .i32 0)))))) ∧ Hp m1 S base w1 (q1q H1) ∧ (∀ id, H1.length ≤ id → m1 id = none) ∧ q4u m (own m (q1q H)) W m1 (own m1 (q1q H1)) w1)
   c0 c1 z1 (hcall.mono fun e w' ⟨u, H1, m1, v, k1, k2, k3, k4, k5, k6⟩ => ?_)).mono fun e W' ⟨he, w1, ⟨H1, m1, ws', e1, e2, e3, e4, k4, k5, k6⟩, d0, d1, hw⟩ => ?_
  ·obtain ⟨ws',e1,e2,e3,e4⟩ := k1
   have hb := k6.map id b r1
   obtain ⟨y0,a0,s0,_⟩ := k4.cell (show q1q H1 id _ from e1) e2 hb
   obtain ⟨y1,a1,s1,_⟩ := k4.cell (show q1q H1 id _ from e1) e3 hb
   have s0 : y0 = _ := s0
   have s1 : y1 = _ := s1
   subst s0 s1
   exact ⟨⟨v,k2⟩,a0,a1,(setc k4 e1 hb e2 (.int .u32 1) rfl).2.2,(setc k4 e1 hb e3 (.int .u32 1) rfl).2.2,H1,m1,ws',e1,e2,e3,e4,k4,k5,g1.trans k6⟩
  ·have hb := k6.map id b r1
   have hg0 : q4u m1 (own m1 (q1q H1)) w1 m1 (own m1 (q1q H1)) w1.drew := ⟨fun _ _ h => h,fun _ h => .inl h,Nat.le_refl _,fun _ _ _ => rfl,rfl,rfl,rfl⟩
   have hp0 := k4.move (fun _ _ h => h) hg0 fun _ _ => rfl
   have hid := q6r e1
   obtain ⟨p2,g2,_⟩ := setc hp0 e1 hb e2 (.int .u32 1) rfl
   have e1' : q0r (H1.set id (some (.cells (ws'.set off (.v (.int .u32 1)))))) id = some (.cells (ws'.set off (.v (.int .u32 1)))) := by rw [q5r _ _ hid,if_pos rfl]
   have e3' : (ws'.set off (.v (.int .u32 1)))[off + 1]? = some (.v (.int .i32 1)) := by rw [List.getElem?_set,if_neg (by omega)]; exact e3
   obtain ⟨p3,g3,_⟩ := setc p2 e1' hb e3' (.int .i32 0) rfl
   rw [List.set_set] at p3 g3
   rw [hw]
   exact ⟨.tup [],_,m1,.tuple #[],e4,he,⟨[],rfl,trivial⟩,p3,fun id hid => k5 id (by simpa using hid),k6.trans (hg0.trans (g2.trans g3))⟩
 | [],hvs => exact hvs.elim
 | [_],hvs => exact hvs.2.elim
 | _ :: _ :: _ :: _,hvs => exact hvs.2.2.elim
end Go.Proofs.YtjkcmnedolfkjaaGreat.Rd
end
section
set_option linter.unusedVariables false
set_option linter.unusedSimpArgs false
set_option maxRecDepth 100000
set_option maxHeartbeats 4000000
namespace Go.Proofs.YtjkcmnedolfkjaaGreat.Rd
open Go Go.RowKit Go.Proofs.YtjkcmnedolfkjaaGreatW.PrintWords Go.Proofs.YtjkcmnedolfkjaaGreat.PL Go.Proofs.YtjkcmnedolfkjaaGreat.Num
def uN (l : List Int) : Rows := l.map fun x => [ui x]
def mkT (k a b n : Int) : Tm := ⟨k,a,b,n,q7a⟩
def q9o (v : Int) : Tm := ⟨1,0,0,0,q0x (v : Rat)⟩
structure qHi (c : List Tm) (n cp : Int) (xs : Rows) : Prop where
 en : n = cnt c
 tk : xs.take n.toNat = c.map tU
 ec : cp = cnt xs
 le : n ≤ cp
theorem qHi.app {c : List Tm} {n cp cp' : Int} {xs zs rest : Rows} {t : Tm} (h : qHi c n cp xs) (hz : zs = xs.take n.toNat ++ [tU t] ++ rest) (hc : cp' = cnt zs) : qHi (c ++ [t]) (n + 1) cp' zs := by
 have hl : (xs.take n.toNat).length = n.toNat := by
  have h1 := h.ec
  have h2 := h.le
  have h3 := h.en
  unfold cnt at *
  rw [List.length_take]
  omega
 have hn := h.en
 have h0 := q6s c
 refine ⟨by rw [hn]; unfold cnt; rw [List.length_append]; rfl,?_,hc,?_⟩
 ·rw [hz,show (n + 1).toNat = n.toNat + 1 by omega,List.map_append,← h.tk,List.append_assoc,List.take_append,hl,List.take_of_length_le (by omega),show n.toNat + 1 - n.toNat = 1 by omega]
  rfl
 ·rw [hc,hz]
  unfold cnt at *
  rw [List.length_append,List.length_append,hl]
  simp only [List.length_cons,List.length_nil]
  omega
def mkH (l ds : Rows) (dn n cp : Int) (bad : Bool) (xs : Rows) : q1f := [some (.cells [.sl 2 n cp 7,.s 1 l,.sl 1 dn dn 1,ub bad]),some (.row 1 ds),some (.row 7 xs)]
def mkE (l ds : Rows) (dn n cp : Int) (bad : Bool) (xs : Rows) : q1f := [some (.cells [.sl 3 n cp 7,.s 1 l,.sl 1 dn dn 1,ub bad]),some (.row 1 ds),none,some (.row 7 xs)]
abbrev MS := List Tm × Int × Bool
def mkR (B : Int) (G : List U → List Tm → List Bool → List Int → Bool → MS → Prop) : HR := fun us h k => ∃ c l d ls ds dn n cp bad xs r,(ls = uB l ∧ ds = uN d ∧ dn = cnt d ∧ n ≤ B ∧ qHi c n cp xs) ∧ G us c l d bad r ∧ h = mkH ls ds dn n cp bad xs ∧
 ∀ i n' cp' b' ys,i = r.2.1 → b' = r.2.2 → qHi r.1 n' cp' ys → k (ui i) (mkE ls ds dn n' cp' b' ys)
theorem q2d {E : Ent} {f : FuncId} {B : Int} {G : List U → List Tm → List Bool → List Int → Bool → MS → Prop} (hE : j2k E f (mkR B G)) {c : List Tm} {l : List Bool} {d : List Int} {ls ds xs : Rows} {dn n cp : Int} {bad : Bool} {us : List U} {h : q1f} {k : U → q1f → Prop} (id : Nat) (r : MS) (hr : qHi c n cp xs)
  (hG : G (us.map (qBb (ix [0,1,id]))) c l d bad r) (hls : ls = uB l) (hds : ds = uN d) (hdn : dn = cnt d) (hk : ∀ i n' cp' b' ys,i = r.2.1 → b' = r.2.2 → qHi r.1 n' cp' ys → k (ui i) (q9l [0,1,id] h (mkE ls ds dn n' cp' b' ys)))
  (hn : n ≤ B := by omega) (hh : [0,1,id].map (fun j => qEz (ix [0,1,id]) (q0r h j)) = mkH ls ds dn n cp bad xs := by rfl) (hc : seeB [0,1,id] us h = true := by rfl) : E f us h k :=
 hE _ _ _ (see [0,1,id] ⟨c,l,d,ls,ds,dn,n,cp,bad,xs,r,⟨hls,hds,hdn,hn,hr⟩,hG,hh,hk⟩ hc)
theorem q1h {α : Type} (c : List α) (t : α) : cnt (c ++ [t]) = cnt c + 1 := by unfold cnt; rw [List.length_append]; rfl
theorem q3n {h : q1f} {k : U → q1f → Prop} {l ds xs : Rows} {dn n cp r : Int} {bad : Bool} (id : Nat) (hk : k (ui r) (mkE l ds dn n cp bad xs)) (h0 : q0r h 0 = some (.cells [.sl id n cp 7,.s 1 l,.sl 1 dn dn 1,ub bad]) := by rfl) (h1 : q0r h 1 = some (.row 1 ds) := by rfl) (h2 : q0r h id = some (.row 7 xs) := by rfl) (hid : (decide (2 ≤ id) && decide (id < h.length)) = true := by rfl) :
  qUd 3 [ui r] h fun a h => match a with
   | [u] => k u h
   | _ => False := by
 simp only [Bool.and_eq_true,decide_eq_true_eq] at hid
 refine ⟨⟨[id],[ui r],mkE l ds dn n cp bad xs,⟨?_,⟨rfl,trivial⟩,⟨_,h0,⟨_,rfl,rfl⟩,rfl,⟨_,rfl,rfl⟩,rfl,trivial⟩,h1,trivial,h2,trivial⟩,hk⟩⟩
 unfold qFj
 have : q6h (List.range 3 ++ [id]) (mkE l ds dn n cp bad xs) = [0,1,id] := rfl
 rw [this]
 simp
 omega
theorem j4m {x : List U} {n cp : Int} {xs : Rows} (h : n ≤ 1000000) (hc : cp = cnt xs) : 1 ≤ cnt [x] ∧ cnt [x] ≤ 100000 ∧ n ≤ 1000000 ∧ cp = cnt xs := ⟨by unfold cnt; simp,by unfold cnt; simp,h,hc⟩
theorem in_len {xs zs : Rows} {n cp : Int} {y : List U} (hz : zs = xs.take n.toNat ++ [y] ++ xs.drop (n.toNat + [y].length)) (h0 : 0 ≤ n) (h : n + 1 ≤ cp) (hc : cp = cnt xs) : cp = cnt zs := by
 rw [hz]
 unfold cnt at *
 simp only [List.length_append,List.length_take,List.length_drop,List.length_cons,List.length_nil]
 omega
theorem gr_len {xs zs : Rows} {n cp c : Int} {y z : List U} (hz : zs = xs.take n.toNat ++ [y] ++ List.replicate (c.toNat - (n.toNat + [y].length)) z) (h0 : 0 ≤ n) (h : n ≤ cp) (h1 : n + 1 ≤ c) (hc : cp = cnt xs) : c = cnt zs := by
 rw [hz]
 unfold cnt at *
 simp only [List.length_append,List.length_take,List.length_replicate,List.length_cons,List.length_nil]
 omega
def qXw (us : List U) (c : List Tm) (_ : List Bool) (_ : List Int) (bad : Bool) (r : MS) : Prop := ∃ t,us = [.ptr 0 0,.agg (tU t)] ∧ r = (c ++ [t],cnt c,bad)
theorem qPd : q5w Tryz.prog 75 (mkR 100000 qXw) := q7c [] [] q0v q3z Tryz.func75 (by kernel_rfl) (by kernel_rfl) fun us h k hR => by
 obtain ⟨c,l,d,ls,ds,dn,n,cp,bad,xs,r,⟨hls,hds,hdn,hc,hr⟩,⟨t,rfl,rfl⟩,rfl,hk⟩ := hR
 refine ⟨0,fun C E hC hE => ?_⟩
 have happ := fun cp' zs rest => hr.app (cp' := cp') (zs := zs) (rest := rest) (t := t)
 have hn := hr.en
 have hle := hr.le
 have hcp := hr.ec
 have hc0 := q6s c
 have hfin := fun i n' cp' ys (e : i = cnt c) (h : qHi (c ++ [t]) n' cp' ys) => hk i n' cp' bad ys e rfl h
 clear hk hr
 obtain ⟨tk,ta,tb,tn,ts,tl,td⟩ := t
 clear hls hds
 cbv
 (repeat ((first | refine ln fun _ _ _ => ?_ | refine tt ?_ | refine ff ?_ | refine wr fun _ _ => ?_ | with_reducible refine bq ?_ | refine cl ?_ | refine sd ?_ | intro _ _); cbv))
 refine ⟨?_, ?_⟩ <;> (
  refine sd ?_ (j4m (by omega) hcp)
  intro n1 hn1
  have e1 : n1 = n + 1 := hn1
  refine ⟨fun zs h1 hz => ?_,fun c1 zs h1 h2 hz => ?_⟩
  ·have hr := happ cp zs _ hz (in_len hz (by omega) (by omega) hcp)
   rw [← e1] at hr
   clear hz
   cbv
   (repeat (((refine wr fun _ _ => ?_)); cbv))
   rename_i q hq
   exact q3n 2 (hfin q _ _ _ (by omega) hr)
  ·have hr := happ c1 zs _ hz (gr_len hz (by omega) hle (by omega) hcp)
   rw [← e1] at hr
   clear hz
   cbv
   (repeat (((refine wr fun _ _ => ?_)); cbv))
   rename_i q hq
   exact q3n 4 (hfin q _ _ _ (by omega) hr))
def qXy (us : List U) (c : List Tm) (_ : List Bool) (_ : List Int) (bad : Bool) (r : MS) : Prop := ∃ kd a b,us = [.ptr 0 0,ui kd,ui a,ui b] ∧ r = (c ++ [mkT kd a b 0],cnt c,bad)
theorem qOl : q5w Tryz.prog 106 (mkR 100000 qXy) := q7c [] [(75,mkR 100000 qXw)] q0v (q1z qPd q3z) Tryz.func106 (by kernel_rfl) (by kernel_rfl) fun us h k hR => by
 obtain ⟨c,l,d,ls,ds,dn,n,cp,bad,xs,r,⟨hls,hds,hdn,hc,hr⟩,⟨kd,a,b,rfl,rfl⟩,rfl,hk⟩ := hR
 refine ⟨0,fun C E hC hE => ?_⟩
 have hput := hE 75 (mkR 100000 qXw) (by simp)
 clear hC hE
 cbv
 (repeat ((first | refine ln fun _ _ _ => ?_ | refine tt ?_ | refine ff ?_ | refine wr fun _ _ => ?_ | with_reducible refine bq ?_ | refine cl ?_ | refine sd ?_ | intro _ _); cbv))
 refine q2d hput 2 (c ++ [mkT kd a b 0],cnt c,bad) hr ⟨mkT kd a b 0,rfl,rfl⟩ hls hds hdn fun i n' cp' b' ys hi hb hr' => ?_
 cbv
 (repeat ((first | refine ln fun _ _ _ => ?_ | refine tt ?_ | refine ff ?_ | refine wr fun _ _ => ?_ | with_reducible refine bq ?_ | refine cl ?_ | refine sd ?_ | intro _ _); cbv))
 exact q3n 3 (hk i _ _ _ _ hi hb hr')
def j3e (us : List U) (c : List Tm) (_ : List Bool) (_ : List Int) (bad : Bool) (r : MS) : Prop := ∃ a,us = [.ptr 0 0,ui a] ∧ r = (c ++ [mkT 7 a 0 0],cnt c,bad)
theorem qSy : q5w Tryz.prog 70 (mkR 100000 j3e) := q7c [] [(75,mkR 100000 qXw)] q0v (q1z qPd q3z) Tryz.func70 (by kernel_rfl) (by kernel_rfl) fun us h k hR => by
 obtain ⟨c,l,d,ls,ds,dn,n,cp,bad,xs,r,⟨hls,hds,hdn,hc,hr⟩,⟨a,rfl,rfl⟩,rfl,hk⟩ := hR
 refine ⟨0,fun C E hC hE => ?_⟩
 have hput := hE 75 (mkR 100000 qXw) (by simp)
 clear hC hE
 cbv
 (repeat ((first | refine ln fun _ _ _ => ?_ | refine tt ?_ | refine ff ?_ | refine wr fun _ _ => ?_ | with_reducible refine bq ?_ | refine cl ?_ | refine sd ?_ | intro _ _); cbv))
 refine q2d hput 2 (c ++ [mkT 7 a 0 0],cnt c,bad) hr ⟨mkT 7 a 0 0,rfl,rfl⟩ hls hds hdn fun i n' cp' b' ys hi hb hr' => ?_
 cbv
 (repeat ((first | refine ln fun _ _ _ => ?_ | refine tt ?_ | refine ff ?_ | refine wr fun _ _ => ?_ | with_reducible refine bq ?_ | refine cl ?_ | refine sd ?_ | intro _ _); cbv))
 exact q3n 3 (hk i _ _ _ _ hi hb hr')
def j1m (us : List U) (c : List Tm) (_ : List Bool) (_ : List Int) (bad : Bool) (r : MS) : Prop := ∃ v,-9223372036854775808 ≤ v ∧ v ≤ 9223372036854775807 ∧ us = [.ptr 0 0,ui v] ∧ r = (c ++ [q9o v],cnt c,bad)
theorem qUz : q5w Tryz.prog 38 (mkR 100000 j1m) := q7c [(76,q9q)] [(75,mkR 100000 qXw)] (q0c qDv q0v) (q1z qPd q3z) Tryz.func38 (by kernel_rfl) (by kernel_rfl) fun us h k hR => by
 obtain ⟨c,l,d,ls,ds,dn,n,cp,bad,xs,r,⟨hls,hds,hdn,hc,hr⟩,⟨v,v0,v1,rfl,rfl⟩,rfl,hk⟩ := hR
 refine ⟨0,fun C E hC hE => ?_⟩
 have hput := hE 75 (mkR 100000 qXw) (by simp)
 obtain ⟨s1,l1,d1,k1,i1⟩ := tR (hC 76 q9q (by simp) _ _ ⟨v,v0,v1,rfl,rfl⟩)
 have e1 : q9o v = ⟨1,0,0,0,(s1,l1,d1)⟩ := by unfold q9o; rw [i1]
 rw [e1] at hk
 clear hC hE i1 e1
 cbv
 (repeat ((refine cl ?_); cbv))
 refine q2d hput 2 (c ++ [⟨1,0,0,0,(s1,l1,d1)⟩],cnt c,bad) hr ⟨⟨1,0,0,0,(s1,l1,d1)⟩,rfl,rfl⟩ hls hds hdn fun i n' cp' b' ys hi hb hr' => ?_
 cbv
 (repeat ((first | refine ln fun _ _ _ => ?_ | refine tt ?_ | refine ff ?_ | refine wr fun _ _ => ?_ | with_reducible refine bq ?_ | refine cl ?_ | refine sd ?_ | intro _ _); cbv))
 exact q3n 3 (hk i _ _ _ _ hi hb hr')
def powG (us : List U) (c : List Tm) (_ : List Bool) (_ : List Int) (bad : Bool) (r : MS) : Prop := ∃ a m,us = [.ptr 0 0,ui a,ui m] ∧ r = (c ++ [mkT 8 a 0 m],cnt c,bad || decide (m < -128))
theorem j0p : q5w Tryz.prog 107 (mkR 100000 powG) := q7c [] [(75,mkR 100000 qXw)] q0v (q1z qPd q3z) Tryz.func107 (by kernel_rfl) (by kernel_rfl) fun us h k hR => by
 obtain ⟨c,l,d,ls,ds,dn,n,cp,bad,xs,r,⟨hls,hds,hdn,hc,hr⟩,⟨a,m,rfl,rfl⟩,rfl,hk⟩ := hR
 refine ⟨0,fun C E hC hE => ?_⟩
 have hput := hE 75 (mkR 100000 qXw) (by simp)
 clear hC hE
 have fin : ∀ b2,(bad || decide (m < -128)) = b2 → ∀ i n' cp' b' ys,i = cnt c → b' = b2 → qHi (c ++ [mkT 8 a 0 m]) n' cp' ys → k (ui i) (mkE ls ds dn n' cp' b' ys) := fun b2 e i n' cp' b' ys h1 h2 h3 => hk i n' cp' b' ys h1 (by rw [h2,← e]) h3
 clear hk
 cases bad
 ·rcases Decidable.em (m < -128) with h | h
  ·have fin := fin true (by rw [decide_eq_true h]; rfl)
   cbv
   (repeat ((refine tt ?_); cbv))
   refine q2d hput 2 (c ++ [mkT 8 a 0 m],cnt c,true) hr ⟨mkT 8 a 0 m,rfl,rfl⟩ hls hds hdn fun i n' cp' b' ys hi hb hr' => ?_
   cbv
   (repeat ((first | refine ln fun _ _ _ => ?_ | refine tt ?_ | refine ff ?_ | refine wr fun _ _ => ?_ | with_reducible refine bq ?_ | refine cl ?_ | refine sd ?_ | intro _ _); cbv))
   exact q3n 3 (fin i _ _ _ _ hi hb hr')
  ·have fin := fin false (by rw [decide_eq_false h]; rfl)
   cbv
   (repeat ((refine ff ?_); cbv))
   refine q2d hput 2 (c ++ [mkT 8 a 0 m],cnt c,false) hr ⟨mkT 8 a 0 m,rfl,rfl⟩ hls hds hdn fun i n' cp' b' ys hi hb hr' => ?_
   cbv
   (repeat ((first | refine ln fun _ _ _ => ?_ | refine tt ?_ | refine ff ?_ | refine wr fun _ _ => ?_ | with_reducible refine bq ?_ | refine cl ?_ | refine sd ?_ | intro _ _); cbv))
   exact q3n 3 (fin i _ _ _ _ hi hb hr')
 ·have fin := fin true rfl
  cbv
  (repeat ((first | refine ln fun _ _ _ => ?_ | refine tt ?_ | refine ff ?_ | refine wr fun _ _ => ?_ | with_reducible refine bq ?_ | refine cl ?_ | refine sd ?_ | intro _ _); cbv))
  refine q2d hput 2 (c ++ [mkT 8 a 0 m],cnt c,true) hr ⟨mkT 8 a 0 m,rfl,rfl⟩ hls hds hdn fun i n' cp' b' ys hi hb hr' => ?_
  cbv
  (repeat ((first | refine ln fun _ _ _ => ?_ | refine tt ?_ | refine ff ?_ | refine wr fun _ _ => ?_ | with_reducible refine bq ?_ | refine cl ?_ | refine sd ?_ | intro _ _); cbv))
  exact q3n 3 (fin i _ _ _ _ hi hb hr')
def bAt (l : List Bool) (i : Int) : Bool := (l[i.toNat]?).getD false
def dAt (d : List Int) (i : Int) : Int := (d[i.toNat]?).getD 0
theorem qVj {l : List Bool} {i : Int} {b : Bool} (h : l[i.toNat]? = some b) : bAt l i = b := by unfold bAt; rw [h]; rfl
theorem qZy {d : List Int} {i x : Int} (h : d[i.toNat]? = some x) : dAt d i = x := by unfold dAt; rw [h]; rfl
theorem qRw {d : List Int} {k : Int} (h0 : 0 ≤ k) (h1 : k < cnt d) : ∃ x,d[k.toNat]? = some x ∧ (uN d)[k.toNat]? = some [ui x] := q2l (c := d) (fun x => [ui x]) h0 h1
def inD (l : List Bool) (d : List Int) (x : Int) : Prop := 0 ≤ x ∧ x < cnt l ∧ x < cnt d
theorem inD.at {l : List Bool} {d : List Int} {ls ds : Rows} {x : Int} (h : inD l d x) (hls : ls = uB l) (hds : ds = uN d) : ∃ b y,bAt l x = b ∧ dAt d x = y ∧ ls[x.toNat]? = some [ub b] ∧ ds[x.toNat]? = some [ui y] := by
 obtain ⟨b,h1,h2⟩ := uB_nth (s := l) h.1 h.2.1
 obtain ⟨y,h3,h4⟩ := qRw (d := d) h.1 h.2.2
 exact ⟨b,y,qVj h1,qZy h3,by rw [hls]; exact h2,by rw [hds]; exact h4⟩
def qLg (l : List Bool) (d : List Int) (c : List Tm) (bad : Bool) (t : Tm) : MS :=
 if bAt l t.a = true then (if bAt l t.b = true then (c ++ [mkT t.k (dAt d t.a) (dAt d t.b) 0],cnt c,bad) else (c,dAt d t.a,bad))
 else if t.k = 4 then (c ++ [mkT 7 (dAt d t.b) 0 0],cnt c,bad) else (c,dAt d t.b,bad)
def q3y (l : List Bool) (d : List Int) (c : List Tm) (bad : Bool) (t : Tm) : MS :=
 let p := c ++ [mkT 5 (dAt d t.a) t.b 0]
 let q := p ++ [mkT 5 t.a (dAt d t.b) 0]
 if bAt l t.b = true then (if bAt l t.a = true then (q ++ [mkT 3 (cnt c) (cnt p) 0],cnt q,bad) else (c ++ [mkT 5 t.a (dAt d t.b) 0],cnt c,bad))
 else if bAt l t.a = true then (p,cnt c,bad) else (c,0,bad)
def q3h (l : List Bool) (d : List Int) (c : List Tm) (bad : Bool) (t : Tm) : MS :=
 if bAt l t.b = true then
  (if bAt l t.a = true then
   let p := c ++ [mkT 5 (dAt d t.a) t.b 0]
   let q := p ++ [mkT 5 t.a (dAt d t.b) 0]
   let u := q ++ [mkT 4 (cnt c) (cnt p) 0]
   let v := u ++ [mkT 8 t.b 0 2]
   (v ++ [mkT 6 (cnt q) (cnt u) 0],cnt v,bad)
  else
   let q := c ++ [mkT 5 t.a (dAt d t.b) 0]
   let u := q ++ [mkT 7 (cnt c) 0 0]
   let v := u ++ [mkT 8 t.b 0 2]
   (v ++ [mkT 6 (cnt q) (cnt u) 0], cnt v, bad))
 else (c ++ [mkT 6 (dAt d t.a) t.b 0],cnt c,bad)
def q4t (d : List Int) (c : List Tm) (bad : Bool) (t : Tm) : MS :=
 if t.n = 1 then (c,dAt d t.a,bad) else
  let p := c ++ [q9o t.n]
  let q := p ++ [mkT 8 t.a 0 (t.n - 1)]
  let u := q ++ [mkT 5 (cnt c) (cnt p) 0]
  (u ++ [mkT 5 (cnt q) (dAt d t.a) 0],cnt u,bad || decide (t.n - 1 < -128))
def q5m (l : List Bool) (d : List Int) (c : List Tm) (bad : Bool) (t : Tm) : MS :=
 if t.k = 2 then (c ++ [q9o 1],cnt c,bad)
 else if t.k = 7 then (c ++ [mkT 7 (dAt d t.a) 0 0],cnt c,bad)
 else if t.k = 5 then q3y l d c bad t
 else if t.k = 6 then q3h l d c bad t
 else if t.k = 8 then q4t d c bad t
 else qLg l d c bad t
def sumG (us : List U) (c : List Tm) (l : List Bool) (d : List Int) (bad : Bool) (r : MS) : Prop := ∃ t,us = [.ptr 0 0,.agg (tU t)] ∧ inD l d t.a ∧ inD l d t.b ∧ r = qLg l d c bad t
theorem sum_in : q5w Tryz.prog 74 (mkR 99000 sumG) := q7c [] [(106,mkR 100000 qXy),(70,mkR 100000 j3e)] q0v (q1z qOl (q1z qSy q3z)) Tryz.func74 (by kernel_rfl) (by kernel_rfl) fun us h k hR => by
 obtain ⟨c,l,d,ls,ds,dn,n,cp,bad,xs,r,⟨hls,hds,hdn,hc,hr⟩,⟨t,rfl,ha,hb,rfl⟩,rfl,hk⟩ := hR
 refine ⟨0,fun C E hC hE => ?_⟩
 have htwo := hE 106 (mkR 100000 qXy) (by simp)
 have hneg := hE 70 (mkR 100000 j3e) (by simp)
 obtain ⟨bA,xA,e1,e2,e3,e4⟩ := ha.at hls hds
 obtain ⟨bB,xB,f1,f2,f3,f4⟩ := hb.at hls hds
 obtain ⟨a0,a1,a2⟩ := ha
 obtain ⟨b0,b1,b2⟩ := hb
 unfold qLg at hk
 rw [e1,e2,f1,f2] at hk
 obtain ⟨kd,ta,tb,tn,ts,tl,td⟩ := t
 dsimp only at *
 clear hC hE e1 e2 f1 f2
 cases bA
 ·rcases Decidable.em (kd = 4) with h | h
  ·have hk' : ∀ i n' cp' b' ys,i = cnt c → b' = bad → qHi (c ++ [mkT 7 xB 0 0]) n' cp' ys → k (ui i) (mkE ls ds dn n' cp' b' ys) := by
    rw [if_pos h] at hk
    exact hk
   cases bB <;> (
    cbv
    (repeat ((first | refine tt ?_ | refine sd ?_ | refine el ?_); cbv))
    refine q2d hneg 2 (c ++ [mkT 7 xB 0 0],cnt c,bad) hr ⟨xB,rfl,rfl⟩ hls hds hdn fun i n' cp' b' ys hi hb hr' => ?_
    cbv
    (repeat ((first | refine ln fun _ _ _ => ?_ | refine tt ?_ | refine ff ?_ | refine wr fun _ _ => ?_ | with_reducible refine bq ?_ | refine cl ?_ | refine sd ?_ | refine el ?_ | intro _ _); cbv))
    exact q3n 4 (hk' i _ _ _ _ hi hb hr'))
  ·have hk' : ∀ i n' cp' b' ys,i = xB → b' = bad → qHi c n' cp' ys → k (ui i) (mkE ls ds dn n' cp' b' ys) := by
    rw [if_neg h] at hk
    exact hk
   cases bB <;> (
    cbv
    (repeat ((first | refine ff ?_ | refine sd ?_ | refine el ?_); cbv))
    exact q3n 2 (hk' xB _ _ _ _ rfl rfl hr))
 ·cases bB
  ·cbv
   (repeat ((first | refine sd ?_ | refine el ?_); cbv))
   exact q3n 2 (hk xA _ _ _ _ rfl rfl hr)
  ·cbv
   (repeat ((first | refine sd ?_ | refine el ?_); cbv))
   refine q2d htwo 2 (c ++ [mkT kd xA xB 0],cnt c,bad) hr ⟨kd,xA,xB,rfl,rfl⟩ hls hds hdn fun i n' cp' b' ys hi hb hr' => ?_
   cbv
   (repeat ((first | refine ln fun _ _ _ => ?_ | refine tt ?_ | refine ff ?_ | refine wr fun _ _ => ?_ | with_reducible refine bq ?_ | refine cl ?_ | refine sd ?_ | refine el ?_ | intro _ _); cbv))
   exact q3n 4 (hk i _ _ _ _ hi hb hr')
def qHa (us : List U) (c : List Tm) (l : List Bool) (d : List Int) (bad : Bool) (r : MS) : Prop := ∃ t,us = [.ptr 0 0,.agg (tU t)] ∧ inD l d t.a ∧ inD l d t.b ∧ r = q3y l d c bad t
theorem qQr : q5w Tryz.prog 71 (mkR 99000 qHa) := q7c [] [(106,mkR 100000 qXy)] q0v (q1z qOl q3z) Tryz.func71 (by kernel_rfl) (by kernel_rfl) fun us h k hR => by
 obtain ⟨c,l,d,ls,ds,dn,n,cp,bad,xs,r,⟨hls,hds,hdn,hc,hr⟩,⟨t,rfl,ha,hb,rfl⟩,rfl,hk⟩ := hR
 refine ⟨0,fun C E hC hE => ?_⟩
 have htwo := hE 106 (mkR 100000 qXy) (by simp)
 obtain ⟨bA,xA,e1,e2,e3,e4⟩ := ha.at hls hds
 obtain ⟨bB,xB,f1,f2,f3,f4⟩ := hb.at hls hds
 obtain ⟨a0,a1,a2⟩ := ha
 obtain ⟨b0,b1,b2⟩ := hb
 unfold q3y at hk
 rw [e1,e2,f1,f2] at hk
 obtain ⟨kd,ta,tb,tn,ts,tl,td⟩ := t
 dsimp only at *
 clear hC hE e1 e2 f1 f2
 have hn0 := hr.en
 cases bB
 ·cases bA
  ·cbv
   (repeat ((first | with_reducible refine bq ?_ | refine el ?_); cbv))
   exact q3n 2 (hk 0 _ _ _ _ rfl rfl hr)
  ·cbv
   (repeat ((first | refine sd ?_ | refine el ?_); cbv))
   refine q2d htwo 2 (c ++ [mkT 5 xA tb 0],cnt c,bad) hr ⟨5,xA,tb,rfl,rfl⟩ hls hds hdn fun i n' cp' b' ys hi hb hr' => ?_
   cbv
   (repeat ((first | with_reducible refine bq ?_ | refine el ?_); cbv))
   exact q3n 4 (hk i _ _ _ _ hi hb hr')
 ·cases bA
  ·cbv
   (repeat ((first | refine sd ?_ | refine el ?_); cbv))
   refine q2d htwo 2 (c ++ [mkT 5 ta xB 0],cnt c,bad) hr ⟨5,ta,xB,rfl,rfl⟩ hls hds hdn fun i n' cp' b' ys hi hb hr' => ?_
   cbv
   (repeat ((first | with_reducible refine bq ?_ | refine el ?_); cbv))
   exact q3n 4 (hk i _ _ _ _ hi hb hr')
  ·cbv
   (repeat ((first | refine sd ?_ | refine el ?_); cbv))
   refine q2d htwo 2 (c ++ [mkT 5 xA tb 0],cnt c,bad) hr ⟨5,xA,tb,rfl,rfl⟩ hls hds hdn fun i1 n1 cp1 b1 ys1 g1 g2 g3 => ?_
   dsimp only at g1 g2 g3
   have m1 := g3.en
   rw [q1h] at m1
   cbv
   (repeat ((first | refine sd ?_ | refine el ?_); cbv))
   refine q2d htwo 4 (c ++ [mkT 5 xA tb 0] ++ [mkT 5 ta xB 0],cnt (c ++ [mkT 5 xA tb 0]),b1) g3 ⟨5,ta,xB,rfl,rfl⟩ hls hds hdn fun i2 n2 cp2 b2 ys2 g4 g5 g6 => ?_
   dsimp only at g4 g5 g6
   have m2 := g6.en
   rw [q1h,q1h] at m2
   cbv
   (repeat ((first | with_reducible refine bq ?_ | refine el ?_); cbv))
   refine q2d htwo 5 (c ++ [mkT 5 xA tb 0] ++ [mkT 5 ta xB 0] ++ [mkT 3 i1 i2 0],cnt (c ++ [mkT 5 xA tb 0] ++ [mkT 5 ta xB 0]),b2) g6 ⟨3,_,_,rfl,rfl⟩ hls hds hdn fun i3 n3 cp3 b3 ys3 g7 g8 g9 => ?_
   dsimp only at g7 g8 g9
   rw [g1,g4] at g9
   cbv
   (repeat ((first | refine ln fun _ _ _ => ?_ | refine tt ?_ | refine ff ?_ | refine wr fun _ _ => ?_ | with_reducible refine bq ?_ | refine cl ?_ | refine sd ?_ | refine el ?_ | intro _ _); cbv))
   exact q3n 6 (hk i3 _ _ _ _ g7 (g8.trans (g5.trans g2)) g9)
def qEd (us : List U) (c : List Tm) (l : List Bool) (d : List Int) (bad : Bool) (r : MS) : Prop := ∃ t,us = [.ptr 0 0,.agg (tU t)] ∧ inD l d t.a ∧ inD l d t.b ∧ r = q3h l d c bad t
theorem qMq : q5w Tryz.prog 72 (mkR 99000 qEd) := q7c [] [(106,mkR 100000 qXy),(70,mkR 100000 j3e),(107,mkR 100000 powG)] q0v (q1z qOl (q1z qSy (q1z j0p q3z))) Tryz.func72 (by kernel_rfl) (by kernel_rfl) fun us h k hR => by
 obtain ⟨c,l,d,ls,ds,dn,n,cp,bad,xs,r,⟨hls,hds,hdn,hc,hr⟩,⟨t,rfl,ha,hb,rfl⟩,rfl,hk⟩ := hR
 refine ⟨0,fun C E hC hE => ?_⟩
 have htwo := hE 106 (mkR 100000 qXy) (by simp)
 have hneg := hE 70 (mkR 100000 j3e) (by simp)
 have hpow := hE 107 (mkR 100000 powG) (by simp)
 obtain ⟨bA,xA,e1,e2,e3,e4⟩ := ha.at hls hds
 obtain ⟨bB,xB,f1,f2,f3,f4⟩ := hb.at hls hds
 obtain ⟨a0,a1,a2⟩ := ha
 obtain ⟨b0,b1,b2⟩ := hb
 unfold q3h at hk
 rw [e1,e2,f1,f2] at hk
 obtain ⟨kd,ta,tb,tn,ts,tl,td⟩ := t
 dsimp only at *
 clear hC hE e1 e2 f1 f2
 have hn0 := hr.en
 cases bB
 ·cbv
  (repeat ((first | with_reducible refine bq ?_ | refine sd ?_ | refine el ?_); cbv))
  refine q2d htwo 2 (c ++ [mkT 6 xA tb 0],cnt c,bad) hr ⟨6,xA,tb,rfl,rfl⟩ hls hds hdn fun i n' cp' b' ys hi hb hr' => ?_
  cbv
  (repeat ((first | refine ln fun _ _ _ => ?_ | refine tt ?_ | refine ff ?_ | refine wr fun _ _ => ?_ | with_reducible refine bq ?_ | refine cl ?_ | refine sd ?_ | refine el ?_ | intro _ _); cbv))
  exact q3n 4 (hk i _ _ _ _ hi hb hr')
 cases bA
 ·have hk : ∀ i n' cp' b' ys,i = cnt (c ++ [mkT 5 ta xB 0] ++ [mkT 7 (cnt c) 0 0] ++ [mkT 8 tb 0 2]) → b' = bad → qHi (c ++ [mkT 5 ta xB 0] ++ [mkT 7 (cnt c) 0 0] ++ [mkT 8 tb 0 2] ++ [mkT 6 (cnt (c ++ [mkT 5 ta xB 0])) (cnt (c ++ [mkT 5 ta xB 0] ++ [mkT 7 (cnt c) 0 0])) 0]) n' cp' ys → k (ui i) (mkE ls ds dn n' cp' b' ys) := hk
  cbv
  (repeat ((first | with_reducible refine bq ?_ | refine sd ?_ | refine el ?_); cbv))
  refine q2d htwo 2 (c ++ [mkT 5 ta xB 0],cnt (c),bad) hr ⟨5,ta,xB,rfl,rfl⟩ hls hds hdn fun i1 n1 cp1 b1 ys1 g1 h1 r1 => ?_
  dsimp only at g1 h1 r1
  have m1 := r1.en
  simp only [q1h] at m1
  cbv
  (repeat ((refine el ?_); cbv))
  refine q2d hneg 4 (c ++ [mkT 5 ta xB 0] ++ [mkT 7 i1 0 0],cnt (c ++ [mkT 5 ta xB 0]),b1) r1 ⟨i1,rfl,rfl⟩ hls hds hdn fun i2 n2 cp2 b2 ys2 g2 h2 r2 => ?_
  dsimp only at g2 h2 r2
  have m2 := r2.en
  simp only [q1h] at m2
  cbv
  (repeat ((first | refine ln fun _ _ _ => ?_ | refine tt ?_ | refine ff ?_ | refine wr fun _ _ => ?_ | with_reducible refine bq ?_ | refine cl ?_ | refine sd ?_ | refine el ?_ | intro _ _); cbv))
  refine q2d hpow 5 (c ++ [mkT 5 ta xB 0] ++ [mkT 7 i1 0 0] ++ [mkT 8 tb 0 2],cnt (c ++ [mkT 5 ta xB 0] ++ [mkT 7 i1 0 0]),b2 || decide ((2 : Int) < -128)) r2 ⟨tb,2,rfl,rfl⟩ hls hds hdn fun i3 n3 cp3 b3 ys3 g3 h3 r3 => ?_
  dsimp only at g3 h3 r3
  have m3 := r3.en
  simp only [q1h] at m3
  cbv
  (repeat ((first | refine ln fun _ _ _ => ?_ | refine tt ?_ | refine ff ?_ | refine wr fun _ _ => ?_ | with_reducible refine bq ?_ | refine cl ?_ | refine sd ?_ | refine el ?_ | intro _ _); cbv))
  refine q2d htwo 6 (c ++ [mkT 5 ta xB 0] ++ [mkT 7 i1 0 0] ++ [mkT 8 tb 0 2] ++ [mkT 6 i2 i3 0],cnt (c ++ [mkT 5 ta xB 0] ++ [mkT 7 i1 0 0] ++ [mkT 8 tb 0 2]),b3) r3 ⟨6,i2,i3,rfl,rfl⟩ hls hds hdn fun i4 n4 cp4 b4 ys4 g4 h4 r4 => ?_
  dsimp only at g4 h4 r4
  have m4 := r4.en
  simp only [q1h] at m4
  cbv
  (repeat ((first | refine ln fun _ _ _ => ?_ | refine tt ?_ | refine ff ?_ | refine wr fun _ _ => ?_ | with_reducible refine bq ?_ | refine cl ?_ | refine sd ?_ | refine el ?_ | intro _ _); cbv))
  have hbad : b4 = bad := by rw [h4,h3,h2,h1]; simp
  rw [g3,g2,g1] at r4
  rw [g1] at g4
  exact q3n 7 (hk i4 _ _ _ _ g4 hbad r4)
 ·have hk : ∀ i n' cp' b' ys,i = cnt (c ++ [mkT 5 xA tb 0] ++ [mkT 5 ta xB 0] ++ [mkT 4 (cnt c) (cnt (c ++ [mkT 5 xA tb 0])) 0] ++ [mkT 8 tb 0 2]) → b' = bad → qHi (c ++ [mkT 5 xA tb 0] ++ [mkT 5 ta xB 0] ++ [mkT 4 (cnt c) (cnt (c ++ [mkT 5 xA tb 0])) 0] ++ [mkT 8 tb 0 2] ++ [mkT 6 (cnt (c ++ [mkT 5 xA tb 0] ++ [mkT 5 ta xB 0])) (cnt (c ++ [mkT 5 xA tb 0] ++ [mkT 5 ta xB 0] ++ [mkT 4 (cnt c) (cnt (c ++ [mkT 5 xA tb 0])) 0])) 0]) n' cp' ys → k (ui i) (mkE ls ds dn n' cp' b' ys) := hk
  cbv
  (repeat ((first | with_reducible refine bq ?_ | refine sd ?_ | refine el ?_); cbv))
  refine q2d htwo 2 (c ++ [mkT 5 xA tb 0],cnt (c),bad) hr ⟨5,xA,tb,rfl,rfl⟩ hls hds hdn fun i1 n1 cp1 b1 ys1 g1 h1 r1 => ?_
  dsimp only at g1 h1 r1
  have m1 := r1.en
  simp only [q1h] at m1
  cbv
  (repeat ((first | refine sd ?_ | refine el ?_); cbv))
  refine q2d htwo 4 (c ++ [mkT 5 xA tb 0] ++ [mkT 5 ta xB 0],cnt (c ++ [mkT 5 xA tb 0]),b1) r1 ⟨5,ta,xB,rfl,rfl⟩ hls hds hdn fun i2 n2 cp2 b2 ys2 g2 h2 r2 => ?_
  dsimp only at g2 h2 r2
  have m2 := r2.en
  simp only [q1h] at m2
  cbv
  (repeat ((refine el ?_); cbv))
  refine q2d htwo 5 (c ++ [mkT 5 xA tb 0] ++ [mkT 5 ta xB 0] ++ [mkT 4 i1 i2 0],cnt (c ++ [mkT 5 xA tb 0] ++ [mkT 5 ta xB 0]),b2) r2 ⟨4,i1,i2,rfl,rfl⟩ hls hds hdn fun i3 n3 cp3 b3 ys3 g3 h3 r3 => ?_
  dsimp only at g3 h3 r3
  have m3 := r3.en
  simp only [q1h] at m3
  cbv
  (repeat ((first | refine ln fun _ _ _ => ?_ | refine tt ?_ | refine ff ?_ | refine wr fun _ _ => ?_ | with_reducible refine bq ?_ | refine cl ?_ | refine sd ?_ | refine el ?_ | intro _ _); cbv))
  refine q2d hpow 6 (c ++ [mkT 5 xA tb 0] ++ [mkT 5 ta xB 0] ++ [mkT 4 i1 i2 0] ++ [mkT 8 tb 0 2],cnt (c ++ [mkT 5 xA tb 0] ++ [mkT 5 ta xB 0] ++ [mkT 4 i1 i2 0]),b3 || decide ((2 : Int) < -128)) r3 ⟨tb,2,rfl,rfl⟩ hls hds hdn fun i4 n4 cp4 b4 ys4 g4 h4 r4 => ?_
  dsimp only at g4 h4 r4
  have m4 := r4.en
  simp only [q1h] at m4
  cbv
  (repeat ((first | refine ln fun _ _ _ => ?_ | refine tt ?_ | refine ff ?_ | refine wr fun _ _ => ?_ | with_reducible refine bq ?_ | refine cl ?_ | refine sd ?_ | refine el ?_ | intro _ _); cbv))
  refine q2d htwo 7 (c ++ [mkT 5 xA tb 0] ++ [mkT 5 ta xB 0] ++ [mkT 4 i1 i2 0] ++ [mkT 8 tb 0 2] ++ [mkT 6 i3 i4 0],cnt (c ++ [mkT 5 xA tb 0] ++ [mkT 5 ta xB 0] ++ [mkT 4 i1 i2 0] ++ [mkT 8 tb 0 2]),b4) r4 ⟨6,i3,i4,rfl,rfl⟩ hls hds hdn fun i5 n5 cp5 b5 ys5 g5 h5 r5 => ?_
  dsimp only at g5 h5 r5
  have m5 := r5.en
  simp only [q1h] at m5
  cbv
  (repeat ((first | refine ln fun _ _ _ => ?_ | refine tt ?_ | refine ff ?_ | refine wr fun _ _ => ?_ | with_reducible refine bq ?_ | refine cl ?_ | refine sd ?_ | refine el ?_ | intro _ _); cbv))
  have hbad : b5 = bad := by rw [h5,h4,h3,h2,h1]; simp
  rw [g4,g3,g2,g1] at r5
  rw [g2,g1] at g5
  exact q3n 8 (hk i5 _ _ _ _ g5 hbad r5)
def qLs (us : List U) (c : List Tm) (l : List Bool) (d : List Int) (bad : Bool) (r : MS) : Prop := ∃ t,us = [.ptr 0 0,.agg (tU t)] ∧ inD l d t.a ∧ (-1000000 ≤ t.n ∧ t.n ≤ 1000000) ∧ r = q4t d c bad t
theorem qRy : q5w Tryz.prog 73 (mkR 99000 qLs) := q7c [] [(106,mkR 100000 qXy),(38,mkR 100000 j1m),(107,mkR 100000 powG)] q0v (q1z qOl (q1z qUz (q1z j0p q3z))) Tryz.func73 (by kernel_rfl) (by kernel_rfl) fun us h k hR => by
 obtain ⟨c,l,d,ls,ds,dn,n,cp,bad,xs,r,⟨hls,hds,hdn,hc,hr⟩,⟨t,rfl,ha,hb,rfl⟩,rfl,hk⟩ := hR
 refine ⟨0,fun C E hC hE => ?_⟩
 have htwo := hE 106 (mkR 100000 qXy) (by simp)
 have hlit := hE 38 (mkR 100000 j1m) (by simp)
 have hpow := hE 107 (mkR 100000 powG) (by simp)
 obtain ⟨bA,xA,e1,e2,e3,e4⟩ := ha.at hls hds
 obtain ⟨a0,a1,a2⟩ := ha
 unfold q4t at hk
 rw [e2] at hk
 obtain ⟨kd,ta,tb,tn,ts,tl,td⟩ := t
 dsimp only at *
 clear hC hE e1 e2
 have hn0 := hr.en
 rcases Decidable.em (tn = 1) with h | h
 ·rw [if_pos h] at hk
  cbv
  (repeat ((first | refine tt ?_ | refine sd ?_ | refine el ?_); cbv))
  exact q3n 2 (hk xA _ _ _ _ rfl rfl hr)
 ·rw [if_neg h] at hk
  have hk : ∀ i n' cp' b' ys,i = cnt (c ++ [q9o tn] ++ [mkT 8 ta 0 (tn - 1)] ++ [mkT 5 (cnt c) (cnt (c ++ [q9o tn])) 0]) → b' = (bad || decide (tn - 1 < -128)) → qHi (c ++ [q9o tn] ++ [mkT 8 ta 0 (tn - 1)] ++ [mkT 5 (cnt c) (cnt (c ++ [q9o tn])) 0] ++ [mkT 5 (cnt (c ++ [q9o tn] ++ [mkT 8 ta 0 (tn - 1)])) xA 0]) n' cp' ys → k (ui i) (mkE ls ds dn n' cp' b' ys) := hk
  cbv
  (repeat ((refine ff ?_); cbv))
  refine q2d hlit 2 (c ++ [q9o tn],cnt c,bad) hr ⟨tn,by omega,by omega,rfl,rfl⟩ hls hds hdn fun i1 n1 cp1 b1 ys1 g1 h1 r1 => ?_
  dsimp only at g1 h1 r1
  have m1 := r1.en
  simp only [q1h] at m1
  clear hr hlit
  cbv
  (repeat (((refine wr fun _ _ => ?_)); cbv))
  rename_i q hq
  repeat' (first
   | refine And.intro ?_ ?_
   | (
     refine q2d hpow 4 (c ++ [q9o tn] ++ [mkT 8 ta 0 q],cnt (c ++ [q9o tn]),b1 || decide (q < -128)) r1 ⟨ta,q,rfl,rfl⟩ hls hds hdn fun i2 n2 cp2 b2 ys2 g2 h2 r2 => ?_
     dsimp only at g2 h2 r2
     have m2 := r2.en
     simp only [q1h] at m2
     clear r1 hpow
     cbv)
   | (
     refine q2d htwo 5 (c ++ [q9o tn] ++ [mkT 8 ta 0 q] ++ [mkT 5 i1 i2 0],cnt (c ++ [q9o tn] ++ [mkT 8 ta 0 q]),b2) r2 ⟨5,i1,i2,rfl,rfl⟩ hls hds hdn fun i3 n3 cp3 b3 ys3 g3 h3 r3 => ?_
     dsimp only at g3 h3 r3
     have m3 := r3.en
     simp only [q1h] at m3
     clear r2
     cbv)
   | (
     refine q2d htwo 6 (c ++ [q9o tn] ++ [mkT 8 ta 0 q] ++ [mkT 5 i1 i2 0] ++ [mkT 5 i3 xA 0],cnt (c ++ [q9o tn] ++ [mkT 8 ta 0 q] ++ [mkT 5 i1 i2 0]),b3) r3 ⟨5,i3,xA,rfl,rfl⟩ hls hds hdn fun i4 n4 cp4 b4 ys4 g4 h4 r4 => ?_
     dsimp only at g4 h4 r4
     clear r3
     cbv)
   | (refine sd ?_; cbv)
   | (refine el ?_; cbv))
  all_goals
   rw [g3,g2,g1,hq] at r4
   rw [g2,g1,hq] at g4
   have hb4 : b4 = (bad || decide (tn - 1 < -128)) := by rw [h4,h3,h2,h1,hq]
   exact q3n 7 (hk i4 _ _ _ _ g4 hb4 r4)
def j2e (us : List U) (c : List Tm) (l : List Bool) (d : List Int) (bad : Bool) (r : MS) : Prop := ∃ t,us = [.ptr 0 0,.agg (tU t)] ∧ (t.k = 2 ∨ (t.k = 7 ∧ inD l d t.a) ∨ (t.k = 8 ∧ inD l d t.a ∧ -1000000 ≤ t.n ∧ t.n ≤ 1000000) ∨ ((t.k = 3 ∨ t.k = 4 ∨ t.k = 5 ∨ t.k = 6) ∧ inD l d t.a ∧ inD l d t.b)) ∧ r = q5m l d c bad t
theorem qXj : q5w Tryz.prog 37 (mkR 99000 j2e) := q7c [] [(38,mkR 100000 j1m),(70,mkR 100000 j3e),(71,mkR 99000 qHa),(72,mkR 99000 qEd),(73,mkR 99000 qLs),(74,mkR 99000 sumG)] q0v (q1z qUz (q1z qSy (q1z qQr (q1z qMq (q1z qRy (q1z sum_in q3z)))))) Tryz.func37 (by kernel_rfl) (by kernel_rfl) fun us h k hR => by
 obtain ⟨c,l,d,ls,ds,dn,n,cp,bad,xs,r,⟨hls,hds,hdn,hc,hr⟩,⟨t,rfl,ht,rfl⟩,rfl,hk⟩ := hR
 refine ⟨0,fun C E hC hE => ?_⟩
 have hlit := hE 38 (mkR 100000 j1m) (by simp)
 have hneg := hE 70 (mkR 100000 j3e) (by simp)
 have hprod := hE 71 (mkR 99000 qHa) (by simp)
 have hquot := hE 72 (mkR 99000 qEd) (by simp)
 have hrais := hE 73 (mkR 99000 qLs) (by simp)
 have hsum := hE 74 (mkR 99000 sumG) (by simp)
 obtain ⟨kd,ta,tb,tn,ts,tl,td⟩ := t
 unfold q5m at hk
 dsimp only at ht hk
 clear hC hE
 obtain ⟨r,er⟩ : ∃ r : MS,r = (if kd = 2 then (c ++ [q9o 1],cnt c,bad) else if kd = 7 then (c ++ [mkT 7 (dAt d ta) 0 0],cnt c,bad) else if kd = 5 then q3y l d c bad ⟨kd,ta,tb,tn,(ts,tl,td)⟩ else if kd = 6 then q3h l d c bad ⟨kd,ta,tb,tn,(ts,tl,td)⟩ else if kd = 8 then q4t d c bad ⟨kd,ta,tb,tn,(ts,tl,td)⟩ else qLg l d c bad ⟨kd,ta,tb,tn,(ts,tl,td)⟩) := ⟨_,rfl⟩
 rw [← er] at hk
 cbv
 rcases ht with h | ⟨h,ha⟩ | ⟨h,ha,t0,t1⟩ | ⟨h,ha,hb⟩
 ·subst h
  (repeat ((refine tt ?_); cbv))
  refine q2d hlit 2 r hr ⟨1,by omega,by omega,rfl,er⟩ hls hds hdn fun i n' cp' b' ys hi hb hr' => ?_
  cbv
  (repeat ((first | refine ln fun _ _ _ => ?_ | refine tt ?_ | refine ff ?_ | refine wr fun _ _ => ?_ | with_reducible refine bq ?_ | refine cl ?_ | refine sd ?_ | refine el ?_ | intro _ _); cbv))
  exact q3n 4 (hk i _ _ _ _ hi hb hr')
 ·obtain ⟨bA,xA,e1,e2,e3,e4⟩ := ha.at hls hds
  obtain ⟨a0,a1,a2⟩ := ha
  subst h
  rw [if_neg (by omega),if_pos rfl,e2] at er
  (repeat ((first | refine tt ?_ | refine ff ?_ | refine sd ?_ | refine el ?_); cbv))
  refine q2d hneg 2 r hr ⟨xA,rfl,er⟩ hls hds hdn fun i n' cp' b' ys hi hb hr' => ?_
  cbv
  (repeat ((first | refine ln fun _ _ _ => ?_ | refine tt ?_ | refine ff ?_ | refine wr fun _ _ => ?_ | with_reducible refine bq ?_ | refine cl ?_ | refine sd ?_ | refine el ?_ | intro _ _); cbv))
  exact q3n 4 (hk i _ _ _ _ hi hb hr')
 ·subst h
  rw [if_neg (by omega),if_neg (by omega),if_neg (by omega),if_neg (by omega),if_pos rfl] at er
  (repeat ((first | refine tt ?_ | refine ff ?_); cbv))
  refine q2d hrais 2 r hr ⟨⟨8,ta,tb,tn,(ts,tl,td)⟩,rfl,ha,⟨t0,t1⟩,er⟩ hls hds hdn fun i n' cp' b' ys hi hb hr' => ?_
  cbv
  (repeat ((first | refine ln fun _ _ _ => ?_ | refine tt ?_ | refine ff ?_ | refine wr fun _ _ => ?_ | with_reducible refine bq ?_ | refine cl ?_ | refine sd ?_ | refine el ?_ | intro _ _); cbv))
  exact q3n 4 (hk i _ _ _ _ hi hb hr')
 ·rcases h with h | h | h | h
  ·subst h
   rw [if_neg (by omega),if_neg (by omega),if_neg (by omega),if_neg (by omega),if_neg (by omega)] at er
   (repeat ((refine ff ?_); cbv))
   refine q2d hsum 2 r hr ⟨⟨3,ta,tb,tn,(ts,tl,td)⟩,rfl,ha,hb,er⟩ hls hds hdn fun i n' cp' b' ys hi hb hr' => ?_
   cbv
   (repeat ((first | refine ln fun _ _ _ => ?_ | refine tt ?_ | refine ff ?_ | refine wr fun _ _ => ?_ | with_reducible refine bq ?_ | refine cl ?_ | refine sd ?_ | refine el ?_ | intro _ _); cbv))
   exact q3n 4 (hk i _ _ _ _ hi hb hr')
  ·subst h
   rw [if_neg (by omega),if_neg (by omega),if_neg (by omega),if_neg (by omega),if_neg (by omega)] at er
   (repeat ((refine ff ?_); cbv))
   refine q2d hsum 2 r hr ⟨⟨4,ta,tb,tn,(ts,tl,td)⟩,rfl,ha,hb,er⟩ hls hds hdn fun i n' cp' b' ys hi hb hr' => ?_
   cbv
   (repeat ((first | refine ln fun _ _ _ => ?_ | refine tt ?_ | refine ff ?_ | refine wr fun _ _ => ?_ | with_reducible refine bq ?_ | refine cl ?_ | refine sd ?_ | refine el ?_ | intro _ _); cbv))
   exact q3n 4 (hk i _ _ _ _ hi hb hr')
  ·subst h
   rw [if_neg (by omega),if_neg (by omega),if_pos rfl] at er
   (repeat ((first | refine tt ?_ | refine ff ?_); cbv))
   refine q2d hprod 2 r hr ⟨⟨5,ta,tb,tn,(ts,tl,td)⟩,rfl,ha,hb,er⟩ hls hds hdn fun i n' cp' b' ys hi hb hr' => ?_
   cbv
   (repeat ((first | refine ln fun _ _ _ => ?_ | refine tt ?_ | refine ff ?_ | refine wr fun _ _ => ?_ | with_reducible refine bq ?_ | refine cl ?_ | refine sd ?_ | refine el ?_ | intro _ _); cbv))
   exact q3n 4 (hk i _ _ _ _ hi hb hr')
  ·subst h
   rw [if_neg (by omega),if_neg (by omega),if_neg (by omega),if_pos rfl] at er
   (repeat ((first | refine tt ?_ | refine ff ?_); cbv))
   refine q2d hquot 2 r hr ⟨⟨6,ta,tb,tn,(ts,tl,td)⟩,rfl,ha,hb,er⟩ hls hds hdn fun i n' cp' b' ys hi hb hr' => ?_
   cbv
   (repeat ((first | refine ln fun _ _ _ => ?_ | refine tt ?_ | refine ff ?_ | refine wr fun _ _ => ?_ | with_reducible refine bq ?_ | refine cl ?_ | refine sd ?_ | refine el ?_ | intro _ _); cbv))
   exact q3n 4 (hk i _ _ _ _ hi hb hr')
def qHv (l : List Bool) (s : Int) (t : Tm) : Bool := if t.k = 2 then decide (t.n = s) else if t.k = 7 then bAt l t.a else if t.k = 8 then !decide (t.n = 0) && bAt l t.a else bAt l t.a || bAt l t.b
def qKj (l : List Bool) (s : Int) (q : Nat) (t : Tm) : List Bool := if t.k = 1 then l else l.set q (qHv l s t)
def q2a (c : List Tm) (s : Int) : Nat → List Bool
 | 0 => List.replicate c.length false
 | q + 1 => match c[q]? with
  | some t => qKj (q2a c s q) s q t
  | none => q2a c s q
theorem q7g (c : List Tm) (s : Int) : ∀ q,cnt (q2a c s q) = cnt c
 | 0 => by unfold q2a cnt; rw [List.length_replicate]
 | q + 1 => by
  have := q7g c s q
  unfold q2a
  split
  ·unfold qKj
   split
   ·exact this
   ·unfold cnt at *; rw [List.length_set]; exact this
  ·exact this
theorem qQl {c : List Tm} {s i : Int} {t : Tm} (h0 : 0 ≤ i) (ht : c[i.toNat]? = some t) : q2a c s (i + 1).toNat = qKj (q2a c s i.toNat) s i.toNat t := by
 rw [show (i + 1).toNat = i.toNat + 1 by omega,q2a,ht]
def qWy (n : Int) : U := .v (.int .u32 n)
def is32 (n : Int) : U := .v (.int .i32 n)
def qSl (c : List Tm) (s st : Int) (l : U) : q1f := [some (.cells [qWy 0,is32 st,qWy 0,l]),some (.cells [.ptr 0 0]),some (.cells [cU c]),some (.cells [ui s])]
def j4b : HR := fun us h k => ∃ c s,q4j c = true ∧ cnt c ≤ 1000000 ∧ us = [.ptr 2 0,.ptr 1 0,.ptr 3 0] ∧ h = qSl c s 1 q9j ∧ k (.tup []) (qSl c s 1 (.sl 4 (cnt c) (cnt c) 1) ++ [some (.row 1 (uB (q2a c s c.length)))])
theorem j3b : q5w Tryz.prog 79 j4b := q7c [] [] q0v q3z Tryz.func79 (by kernel_rfl) (by kernel_rfl) fun us h k hR => by
 obtain ⟨c,s,hg,hn,rfl,rfl,hk⟩ := hR
 obtain ⟨r,hr⟩ : ∃ r,(cnt c).toNat < r := ⟨_,Nat.lt_succ_self _⟩
 refine ⟨r,fun C E hC hE => ?_⟩
 have hok : ∀ (q : Int) t,0 ≤ q → c[q.toNat]? = some t → q1n t q = true := fun q t h0 ht => by
  have := q1j.1 hg q.toNat t ht
  rwa [show (q.toNat : Int) = q by omega] at this
 have hcn := fun i (h0 : 0 ≤ i) (h1 : i < cnt c) => q2l (c := c) tU h0 h1
 have hc := q2r c tU
 have hc0 := q6s c
 have hll := q7g c s
 have hnext := fun i t (h0 : 0 ≤ i) (ht : c[i.toNat]? = some t) => qQl (c := c) (s := s) (i := i) (t := t) h0 ht
 obtain ⟨uB,huB⟩ : ∃ f : List Bool → Rows,f = Rd.uB := ⟨_,rfl⟩
 have uB_len : ∀ s,cnt (uB s) = cnt s := fun s => by rw [huB]; exact Rd.uB_len s
 have uB_nth : ∀ {s : List Bool} {k : Int},0 ≤ k → k < cnt s → ∃ b,s[k.toNat]? = some b ∧ (uB s)[k.toNat]? = some [ub b] := fun {s k} h0 h1 => by rw [huB]; exact Rd.uB_nth h0 h1
 have uB_set : ∀ (s : List Bool) (k : Nat) (b : Bool),(uB s).set k [ub b] = uB (s.set k b) := fun s k b => by rw [huB]; exact Rd.uB_set s k b
 rw [← huB] at hk
 unfold qSl cU at *
 obtain ⟨L,hL⟩ : ∃ L : Nat → List Bool,L = q2a c s := ⟨_,rfl⟩
 have hL0 : L 0 = List.replicate c.length false := by rw [hL]; rfl
 rw [← hL] at hk hll hnext
 clear hL hg
 generalize c.map tU = xs at *
 cbv
 (repeat ((first | refine ln fun _ _ _ => ?_ | refine rp fun _ _ _ => ?_ | refine sd ?_); cbv))
 rename_i n hn hn0 rs hrs hrc n2 hn2 hn20
 have hnn : n2 = n := by omega
 subst hnn
 have e2 : rs = uB (L 0) := by
  rw [hrs,hL0,huB]
  unfold Rd.uB
  rw [List.map_replicate]
  congr 1
  unfold cnt at hc hn
  omega
 clear hrs hrc
 subst e2
 refine q4n [0,1,2,11,12,13] ?_
 cbv
 refine q2g (fun j a h => ∃ i : Int,0 ≤ i ∧ i ≤ cnt c ∧ j = (cnt c - i).toNat ∧ a = [.ptr 2 0,.ptr 1 0,.ptr 3 0,.lost,.lost,.lost,.lost,.lost,.lost,.lost,.lost,.s 7 xs,ui n2,ui i,.lost,.lost,.lost,.lost,.lost,.lost,.lost,.lost,.lost,.lost,.lost,.lost,.lost,.lost,.lost,.lost,.lost,.lost,.lost,.lost,.lost,.lost,.lost,.lost,.lost,.lost,.lost,.lost,.lost,.lost,.lost,.lost,.lost,.lost,.lost,.lost,.lost,.lost,.lost,.lost,.lost,.lost,.lost,.lost,.lost,.lost,.lost,.lost,.lost,.lost,.lost,.lost,.lost,.lost,.lost,.lost,.lost,.lost,.lost,.lost,.lost,.lost,.lost,.lost,.lost,.lost,.lost,.lost,.lost,.lost,.lost,.lost,.lost,.lost,.lost,.lost,.lost,.lost,.lost,.lost,.lost,.lost,.lost,.lost,.lost] ∧ h = [some (.cells [qWy 0,is32 1,qWy 0,.sl 4 n2 n2 1]),some (.cells [.ptr 0 0]),some (.cells [.s 7 xs]),some (.cells [ui s]),some (.row 1 (uB (L i.toNat)))]) ?_ r (cnt c).toNat _ _ hr ⟨0,by omega,by omega,by omega,rfl,rfl⟩
 rintro j a h K ⟨i,i0,i1,hj,rfl,rfl⟩ hK
 rcases Decidable.em (i < cnt c) with hlt | hlt
 ·obtain ⟨t,ht,hx⟩ := hcn i i0 hlt
  have hcs := q1v (hok i t i0 ht)
  have hnx := hnext i t i0 ht
  have hli := hll i.toNat
  have hrd := fun (x : Int) (x0 : 0 ≤ x) (x1 : x < i) => uB_nth (s := L i.toNat) x0 (by omega)
  obtain ⟨b0,hb0,hz0⟩ := uB_nth (s := L i.toNat) i0 (by omega)
  have hbA := fun (x : Int) (b : Bool) (e : (L i.toNat)[x.toNat]? = some b) => qVj e
  have hul := uB_len (L i.toNat)
  have hst : ∀ b ys,ys = (uB (L i.toNat)).set i.toNat [ub b] → L (i + 1).toNat = (L i.toNat).set i.toNat b → ys = uB (L (i + 1).toNat) := fun b ys e1 e2 => by rw [e1,e2,uB_set]
  have hK' := fun i' (e : i' = i + 1) => hK (cnt c - (i + 1)).toNat _ _ (by omega) ⟨i + 1,by omega,by omega,rfl,rfl,rfl⟩
  obtain ⟨kd,ta,tb,m,ts,tl,td⟩ := t
  unfold qKj qHv at hnx
  dsimp only at hcs hnx
  generalize L (i + 1).toNat = L1 at *
  generalize L i.toNat = L0 at *
  generalize hU1 : uB L1 = U1 at *
  generalize hU0 : uB L0 = U0 at *
  clear hok hcn hnext hll hK hL0 ht
  cbv
  (repeat ((refine tt ?_); cbv))
  refine el ?_ (by omega) hx
  cbv
  rcases hcs with h | ⟨h,h2⟩ | ⟨h,h2,h3⟩ | ⟨h,h2⟩ | ⟨h,h2,h3⟩
  ·subst h
   rw [if_pos rfl] at hnx
   subst hnx
   rw [hU0] at hU1
   subst hU1
   (repeat ((first | refine ff ?_ | refine wr fun _ _ => ?_); cbv))
   rename_i q' hq'
   refine q4n [0,1,2,11,12,13] ?_
   rw [hq']
   exact hK' _ rfl
  ·subst h
   rw [if_neg (by omega),if_pos rfl] at hnx
   rcases Decidable.em (m = s) with h1 | h1
   ·rw [decide_eq_true h1] at hnx
    (repeat ((first | refine tt ?_ | refine sd ?_); cbv))
    refine el ?_ (by omega) hz0
    cbv
    refine se fun ys e hyc => ?_
    have e2 := hst _ ys e hnx
    clear e hyc
    subst e2
    cbv
    (repeat (((refine wr fun _ _ => ?_)); cbv))
    rename_i q' hq'
    refine q4n [0,1,2,11,12,13] ?_
    rw [hq']
    exact hK' _ rfl
   ·rw [decide_eq_false h1] at hnx
    (repeat ((first | refine tt ?_ | refine ff ?_ | refine sd ?_); cbv))
    refine el ?_ (by omega) hz0
    cbv
    refine se fun ys e hyc => ?_
    have e2 := hst _ ys e hnx
    clear e hyc
    subst e2
    cbv
    (repeat (((refine wr fun _ _ => ?_)); cbv))
    rename_i q' hq'
    refine q4n [0,1,2,11,12,13] ?_
    rw [hq']
    exact hK' _ rfl
  ·obtain ⟨bA,e1,e2⟩ := hrd ta h2.1 h2.2
   obtain ⟨bB,f1,f2⟩ := hrd tb h3.1 h3.2
   rw [if_neg (by omega),if_neg (by omega),if_neg (by omega),if_neg (by omega),hbA _ _ e1,hbA _ _ f1] at hnx
   cases bA
   ·rcases h with h | h | h | h <;> subst h <;> (
     (repeat ((first | refine tt ?_ | refine ff ?_ | refine sd ?_); cbv))
     refine el ?_ (by omega) e2
     cbv
     (repeat ((refine sd ?_); cbv))
     refine el ?_ (by omega) f2
     cbv
     (repeat ((refine sd ?_); cbv))
     refine el ?_ (by omega) hz0
     cbv
     refine se fun ys e hyc => ?_
     have e2 := hst bB ys e hnx
     clear e hyc
     subst e2
     cbv
     (repeat (((refine wr fun _ _ => ?_)); cbv))
     rename_i q' hq'
     refine q4n [0,1,2,11,12,13] ?_
     rw [hq']
     exact hK' _ rfl)
   ·rcases h with h | h | h | h <;> subst h <;> (
     (repeat ((first | refine tt ?_ | refine ff ?_ | refine sd ?_); cbv))
     refine el ?_ (by omega) e2
     cbv
     (repeat ((refine sd ?_); cbv))
     refine el ?_ (by omega) hz0
     cbv
     refine se fun ys e hyc => ?_
     have e2 := hst true ys e hnx
     clear e hyc
     subst e2
     cbv
     (repeat (((refine wr fun _ _ => ?_)); cbv))
     rename_i q' hq'
     refine q4n [0,1,2,11,12,13] ?_
     rw [hq']
     exact hK' _ rfl)
  ·obtain ⟨bA,e1,e2⟩ := hrd ta h2.1 h2.2
   rw [if_neg (by omega),if_neg (by omega),if_pos h,hbA _ _ e1] at hnx
   subst h
   (repeat ((first | refine tt ?_ | refine ff ?_ | refine sd ?_); cbv))
   refine el ?_ (by omega) e2
   cbv
   (repeat ((refine sd ?_); cbv))
   refine el ?_ (by omega) hz0
   cbv
   refine se fun ys e hyc => ?_
   have e2 := hst bA ys e hnx
   clear e hyc
   subst e2
   cbv
   (repeat (((refine wr fun _ _ => ?_)); cbv))
   rename_i q' hq'
   refine q4n [0,1,2,11,12,13] ?_
   rw [hq']
   exact hK' _ rfl
  ·obtain ⟨bA,e1,e2⟩ := hrd ta h2.1 h2.2
   rw [if_neg (by omega),if_neg (by omega),if_neg (by omega),if_pos h,hbA _ _ e1] at hnx
   subst h
   rcases Decidable.em (m = 0) with h1 | h1
   ·rw [decide_eq_true h1] at hnx
    have hnx : L1 = L0.set i.toNat false := hnx
    (repeat ((first | refine tt ?_ | refine ff ?_ | refine sd ?_); cbv))
    refine el ?_ (by omega) hz0
    cbv
    refine se fun ys e hyc => ?_
    have e2 := hst false ys e hnx
    clear e hyc
    subst e2
    cbv
    (repeat (((refine wr fun _ _ => ?_)); cbv))
    rename_i q' hq'
    refine q4n [0,1,2,11,12,13] ?_
    rw [hq']
    exact hK' _ rfl
   ·rw [decide_eq_false h1] at hnx
    have hnx : L1 = L0.set i.toNat bA := hnx
    (repeat ((first | refine tt ?_ | refine ff ?_ | refine sd ?_); cbv))
    refine el ?_ (by omega) e2
    cbv
    (repeat ((refine sd ?_); cbv))
    refine el ?_ (by omega) hz0
    cbv
    refine se fun ys e hyc => ?_
    have e2 := hst bA ys e hnx
    clear e hyc
    subst e2
    cbv
    (repeat (((refine wr fun _ _ => ?_)); cbv))
    rename_i q' hq'
    refine q4n [0,1,2,11,12,13] ?_
    rw [hq']
    exact hK' _ rfl
 ·have hfin : L i.toNat = L c.length := by congr 1; unfold cnt at hlt i1; omega
  rw [hfin]
  have hnc : n2 = cnt c := by omega
  rw [← hnc] at hk
  clear hK hnext hll hL0 hfin
  generalize hU0 : uB (L c.length) = U0 at *
  cbv
  (repeat ((refine ff ?_); cbv))
  exact ⟨⟨[4],[],[some (.cells [qWy 0,is32 1,qWy 0,.sl 4 n2 n2 1]),some (.cells [.ptr 0 0]),some (.cells [.s 7 xs]),some (.cells [ui s]),some (.row 1 U0)],⟨rfl,trivial,⟨_,rfl,rfl,rfl,rfl,⟨4,rfl,rfl⟩,trivial⟩,⟨_,rfl,⟨0,rfl,rfl⟩,trivial⟩,⟨_,rfl,rfl,trivial⟩,⟨_,rfl,rfl,trivial⟩,rfl,trivial⟩,hk⟩⟩
def qLj : HR := fun us h k => ∃ c s,q4j c = true ∧ cnt c ≤ 1000000 ∧ us = [.ptr 0 0,cU c,ui s] ∧ h = [some (.cells [qWy 0,is32 0,qWy 0,q9j])] ∧ k (.sl 1 (cnt c) (cnt c) 1) [none,some (.row 1 (uB (q2a c s c.length)))]
theorem qSh : q5w Tryz.prog 43 qLj := q7c [] [(78,doR 79 j4b)] q0v (q1z (do_ok j3b) q3z) Tryz.func43 (by kernel_rfl) (by kernel_rfl) fun us h k hR => by
 obtain ⟨c,s,hg,hn,rfl,rfl,hk⟩ := hR
 refine ⟨0,fun C E hC hE => ?_⟩
 have hdo := hE 78 (doR 79 j4b) (by simp)
 have hin := fun k' hk' => hdo [.ptr 0 0,.clo 79 [.ptr 2 0,.ptr 1 0,.ptr 3 0]] (qSl c s 0 q9j) k' (.inl ⟨0,0,_,_,rfl,rfl,rfl,rfl,c,s,hg,hn,rfl,rfl,_,rfl,rfl,rfl,hk'⟩)
 have hc0 := q6s c
 clear hC hE hdo hg
 unfold qSl cU at *
 generalize c.map tU = xs at *
 generalize cnt c = n at *
 generalize uB (q2a c s c.length) = U0 at *
 cbv
 (repeat ((first | refine ln fun _ _ _ => ?_ | refine tt ?_ | refine ff ?_ | refine wr fun _ _ => ?_ | refine rp fun _ _ _ => ?_ | with_reducible refine bq ?_ | refine cl ?_ | refine sd ?_ | intro _ _); cbv))
 refine hin _ ?_
 clear hin
 cbv
 (repeat ((first | refine ln fun _ _ _ => ?_ | refine tt ?_ | refine ff ?_ | refine wr fun _ _ => ?_ | refine rp fun _ _ _ => ?_ | with_reducible refine bq ?_ | refine cl ?_ | refine sd ?_ | intro _ _); cbv))
 exact ⟨⟨[4],[.sl 1 n n 1],[none,some (.row 1 U0)],⟨rfl,⟨⟨4,rfl,rfl⟩,trivial⟩,trivial,rfl,trivial⟩,hk⟩⟩
def qOk (c : List Tm) (i s : Int) : U := if q7x c i = true then .s 1 (uB (q2a c s c.length)) else q9j
def qIv (us : List U) (u : U) : Prop := ∃ c i s,(∀ t ∈ c,LB t.q) ∧ cnt c ≤ 1000000 ∧ us = [cU c,ui i,ui s] ∧ u = qOk c i s
theorem qOq : q0w Tryz.prog 15 qIv := j0l [(35, q6n)] [(43, qLj)] (q0c qHw q0v) (q1z qSh q3z) Tryz.func15 (by kernel_rfl) (by kernel_rfl) fun us u hR =>                                                     ⟨0, fun C E hC hE => by
 obtain ⟨c,i,s,hq,hn,rfl,hu⟩ := hR
 have k1 := hC 35 q6n (by simp) _ _ ⟨c,i,hq,hn,rfl,rfl⟩
 have hof := hE 43 qLj (by simp)
 have hin := fun hg k' hk' => hof [.ptr 0 0,cU c,ui s] [some (.cells [qWy 0,is32 0,qWy 0,q9j])] k' (.inl ⟨c,s,hg,hn,rfl,rfl,hk'⟩)
 have hl := q7g c s c.length
 have hul := uB_len (q2a c s c.length)
 have hc0 := q6s c
 have hnl := q6l c i.toNat
 unfold qOk at hu
 unfold qAy at k1
 clear hC hE hof hq
 cases hmc : q7x c i
 ·rw [hmc,if_neg (by simp)] at k1 hu
  unfold cU at *
  generalize c.map tU = xs at *
  cbv
  (repeat ((refine cl ?_); cbv))
  exact hu.symm
 ·rw [hmc,if_pos rfl] at k1 hu
  have hin := hin (by unfold q7x at hmc; simp only [Bool.and_eq_true] at hmc; exact hmc.2)
  have hpos : 0 < cnt c := by
   unfold q7x at hmc
   simp only [Bool.and_eq_true,decide_eq_true_eq] at hmc
   omega
  obtain ⟨y,nds,hns⟩ : ∃ y ys,uB (q1m c i.toNat) = y :: ys := by
   cases h : uB (q1m c i.toNat) with
   | nil =>
    have := uB_len (q1m c i.toNat)
    rw [h,hnl] at this
    have h0 : cnt ([] : Rows) = 0 := rfl
    omega
   | cons y ys => exact ⟨y,ys,rfl⟩
  rw [hns] at k1
  unfold cU at *
  generalize c.map tU = xs at *
  generalize uB (q2a c s c.length) = U0 at *
  generalize hcn : cnt c = n at *
  cbv
  (repeat ((refine cl ?_); cbv))
  refine hin _ ?_
  cbv
  (repeat ((first | refine sd ?_ | intro _ _); cbv))
  rename_i ys e
  rw [hu, e, List.take_of_length_le (by unfold cnt at *; omega)]⟩
def qCe (z : List U) (cs : Rows) (q : Int) : Rows := cs.take q.toNat ++ List.replicate (cnt cs - q).toNat z
theorem qZc {z : List U} {cs : Rows} {q : Int} (h0 : 0 ≤ q) (h1 : q ≤ cnt cs) : cnt (qCe z cs q) = cnt cs := by
 unfold qCe cnt at *
 rw [List.length_append,List.length_take,List.length_replicate]
 omega
theorem j1h {z : List U} {cs : Rows} {q : Int} (h0 : 0 ≤ q) (h1 : q < cnt cs) : (qCe z cs q)[q.toNat]? = some z := by
 unfold qCe cnt at *
 rw [List.getElem?_append_right (by rw [List.length_take]; omega),List.length_take,List.getElem?_replicate,if_pos (by omega)]
theorem qSj {z y : List U} {cs : Rows} {q : Int} (h0 : 0 ≤ q) (hy : cs[q.toNat]? = some y) : (qCe z cs q).set q.toNat y = qCe z cs (q + 1) := by
 have hlt := (List.getElem?_eq_some_iff.1 hy).1
 unfold qCe cnt
 have hl : (cs.take q.toNat).length = q.toNat := by rw [List.length_take]; omega
 rw [List.set_append_right _ _ (by omega),hl,Nat.sub_self,show ((cs.length : Int) - q).toNat = ((cs.length : Int) - (q + 1)).toNat + 1 by omega,List.replicate_succ,List.set_cons_zero,show (q + 1).toNat = q.toNat + 1 by omega,List.take_add_one,hy]
 simp
theorem qZv {z : List U} {cs : Rows} : qCe z cs (cnt cs) = cs := by
 unfold qCe cnt
 simp
theorem qRq {z : List U} {cs : Rows} : qCe z cs 0 = List.replicate cs.length z := by
 unfold qCe cnt
 simp
def qMd : HR := fun us h k => ∃ c,(∀ t ∈ c,LB t.q ∧ (t.k = 1 → q1r t.q = true)) ∧ cnt c ≤ 1000000 ∧ us = [cU c] ∧ h = [] ∧ k (.sl 0 (cnt c) (cnt c) 7) [some (.row 7 (c.map tU))]
theorem qVe : q5w Tryz.prog 36 qMd := q7c [(69,qDs)] [] (q0c qHe q0v) q3z Tryz.func36 (by kernel_rfl) (by kernel_rfl) fun us h k hR => by
 obtain ⟨c,hb,hn,rfl,rfl,hk⟩ := hR
 obtain ⟨r,hr⟩ : ∃ r,(cnt c).toNat < r := ⟨_,Nat.lt_succ_self _⟩
 refine ⟨r,fun C E hC hE => ?_⟩
 have kN := hC 69 qDs (by simp)
 have hm := fun i (h0 : 0 ≤ i) (h1 : i < cnt c) => q2l (c := c) tU h0 h1
 have hc := q2r c tU
 have hc0 := q6s c
 unfold cU at *
 generalize c.map tU = cs at *
 obtain ⟨F,hF⟩ : ∃ F : Int → Rows,F = qCe [ui 0,ui 0,ui 0,ui 0,ub false,.l [],.l []] cs := ⟨_,rfl⟩
 have F0 : F 0 = List.replicate cs.length [ui 0,ui 0,ui 0,ui 0,ub false,.l [],.l []] := by rw [hF]; exact qRq
 have Fn : F (cnt cs) = cs := by rw [hF]; exact qZv
 have Fl := fun q (h0 : 0 ≤ q) (h1 : q ≤ cnt cs) => qZc (z := [ui 0,ui 0,ui 0,ui 0,ub false,.l [],.l []]) (cs := cs) h0 h1
 have Fa := fun q (h0 : 0 ≤ q) (h1 : q < cnt cs) => j1h (z := [ui 0,ui 0,ui 0,ui 0,ub false,.l [],.l []]) (cs := cs) h0 h1
 have Fs := fun q y (h0 : 0 ≤ q) (hy : cs[q.toNat]? = some y) => qSj (z := [ui 0,ui 0,ui 0,ui 0,ub false,.l [],.l []]) (cs := cs) h0 hy
 rw [← hF] at Fl Fa Fs
 clear hC hE hF
 cbv
 (repeat ((first | with_reducible refine ln fun _ _ _ => ?_ | refine rp fun _ _ _ => ?_ | refine sd ?_); cbv))
 rename_i n hn1 hn2 rs hrs hrc n2 hn3 hn4
 have hnn : n2 = n := by omega
 subst hnn
 have e2 : rs = F 0 := by
  rw [hrs,F0]
  congr 1
  unfold cnt at hn1
  omega
 clear hrs hrc
 subst e2
 refine q4n [3,9,10,11] ?_
 cbv
 refine q2g (fun j a h => ∃ q : Int,0 ≤ q ∧ q ≤ cnt cs ∧ j = (cnt cs - q).toNat ∧ a = [.lost,.lost,.lost,.sl 0 n2 n2 7,.lost,.lost,.lost,.lost,.lost,.s 7 cs,ui n2,ui q,.lost,.lost,.lost,.lost,.lost,.lost,.lost,.lost,.lost,.lost,.lost,.lost,.lost,.lost,.lost,.lost,.lost,.lost] ∧ h = [some (.row 7 (F q))]) ?_ r (cnt cs).toNat _ _ (by omega) ⟨0,by omega,by omega,by omega,rfl,rfl⟩
 rintro j a h K ⟨q,q0,q1,hj,rfl,rfl⟩ hK
 rcases Decidable.em (q < cnt cs) with hlt | hlt
 ·obtain ⟨t,ht,hy⟩ := hm q q0 (by omega)
  obtain ⟨hq,hg⟩ := hb t (List.mem_of_getElem? ht)
  have hz := Fa q q0 hlt
  have hs := Fs q _ q0 hy
  have hl := Fl q q0 q1
  have hK' := hK (cnt cs - (q + 1)).toNat _ _ (by omega) ⟨q + 1,by omega,by omega,rfl,rfl,rfl⟩
  obtain ⟨kd,ta,tb,m,s,l,dd⟩ := t
  dsimp only at hq hg
  generalize F (q + 1) = F1 at *
  generalize F q = F2 at *
  clear hm hb hK hk Fa Fs Fl F0 Fn
  cbv
  (repeat ((refine tt ?_); cbv))
  refine el ?_ (by omega) hy
  clear hy ht
  cbv
  rcases Decidable.em (kd = 1) with h1 | h1
  ·have hg := qAq (hg h1)
   obtain ⟨s1,l1,d1,k1,i1⟩ := tR (kN _ _ ⟨_,hq,rfl,rfl⟩)
   have k2 := kN _ _ ⟨(s1,l1,d1),i1 ▸ qJf _,rfl,rfl⟩
   rw [show qEl (s1,l1,d1) = qY (s,l,dd) by rw [i1]; rfl,hg] at k2
   have k2 : C 69 [.agg [ub s1,.l l1,.l d1]] (.agg [ub s,.l l,.l dd]) := k2
   clear i1 kN hg hq
   subst h1
   (repeat ((first | refine tt ?_ | refine cl ?_ | refine sd ?_); cbv))
   refine el ?_ (by omega) hz
   cbv
   refine se fun ys e hyc => ?_
   have e2 : ys = F1 := e.trans hs
   clear e hyc
   subst e2
   cbv
   (repeat (((with_reducible refine wr fun _ _ => ?_)); cbv))
   rename_i q' hq'
   refine q4n [3,9,10,11] ?_
   rw [hq']
   exact hK'
  ·(repeat ((first | refine ff ?_ | refine sd ?_); cbv))
   refine el ?_ (by omega) hz
   cbv
   refine se fun ys e hyc => ?_
   have e2 : ys = F1 := e.trans hs
   clear e hyc
   subst e2
   cbv
   (repeat (((with_reducible refine wr fun _ _ => ?_)); cbv))
   rename_i q' hq'
   refine q4n [3,9,10,11] ?_
   rw [hq']
   exact hK'
 ·have hqn : q = cnt cs := by omega
  rw [show F q = cs by rw [hqn,Fn]]
  have hcn : n2 = cnt c := by omega
  rw [← hcn] at hk
  clear hK hm hb Fa Fs Fl F0 Fn
  cbv
  refine ff ?_
  cbv
  exact ⟨⟨[0],[.sl 0 n2 n2 7],[some (.row 7 cs)],⟨rfl,⟨⟨0,rfl,rfl⟩,trivial⟩,rfl,trivial⟩,hk⟩⟩
def ixN (n : Nat) (rs : List Nat) (id : Nat) : Nat := n + ix rs id
def okW (n : Nat) (L rs : List Nat) (a : List U) (h : q1f) : Bool := decide (n ≤ h.length) && (qQv L a).all (j0a rs) && (rs.all fun j => j3u rs (q0r h j)) && (rs.all fun j => decide (j < h.length)) && decide rs.Nodup
theorem qRg {n : Nat} {rs : List Nat} {i : Nat} (h : rs.contains i = true) : (List.range n ++ rs)[ixN n rs i]? = some i := by
 unfold ixN
 rw [List.getElem?_append_right (by simp)]
 simpa using qYn h
theorem qLa {n : Nat} {us : List U} (h : us.all U.bare = true) : us.all (qNc n) = true := by
 rw [List.all_eq_true] at *
 intro u hu
 have := h u hu
 cases u <;> first | exact this | cases this
theorem qUo {n : Nat} {rs : List Nat} {u : U} (h : j0a rs u = true) : wkU n (List.range n ++ rs) u (qBb (ixN n rs) u) := by
 cases u with
 | ptr i off => exact ⟨i,qRg h,rfl⟩
 | pe i k x off => exact ⟨i,qRg h,rfl⟩
 | sl i n c k => exact ⟨i,qRg h,rfl⟩
 | agg us =>
  have e : qBb (ixN n rs) (.agg us) = .agg us := by show U.agg _ = _; rw [qAf h]
  rw [e]
  exact ⟨qLa h,rfl⟩
 | clo f us =>
  have e : qBb (ixN n rs) (.clo f us) = .clo f us := by show U.clo f _ = _; rw [qAf h]
  rw [e]
  exact ⟨qLa h,rfl⟩
 | tup us => cases h
 | lost => trivial
 | _ => rfl
theorem qPc {n : Nat} {rs : List Nat} : ∀ {us : List U},us.all (j0a rs) = true → wkA n (List.range n ++ rs) us (us.map (qBb (ixN n rs)))
 | [],_ => trivial
 | u :: us,h => by
  rw [List.all_cons,Bool.and_eq_true] at h
  exact ⟨qUo h.1,qPc h.2⟩
theorem qNr {n : Nat} {rs L : List Nat} : ∀ {a : List U} {i : Nat},(q6t L i a).all (j0a rs) = true → wkA n (List.range n ++ rs) a ((q6t L i a).map (qBb (ixN n rs)))
 | [],_,_ => trivial
 | u :: us,i,h => by
  unfold q6t at h ⊢
  rw [List.all_cons,Bool.and_eq_true] at h
  refine ⟨?_,qNr h.2⟩
  split
  ·rename_i hc
   rw [if_pos hc] at h
   exact qUo h.1
  ·trivial
theorem qNx {n : Nat} {JS : List Nat} {h : q1f} : ∀ {rs : List Nat},(rs.all fun j => j3u JS (q0r h j)) = true → wkH n (List.range n ++ JS) h rs (rs.map fun j => qEz (ixN n JS) (q0r h j))
 | [],_ => trivial
 | j :: rs,hc => by
  rw [List.all_cons,Bool.and_eq_true] at hc
  refine ⟨?_,qNx hc.2⟩
  show wkO n (List.range n ++ JS) h j (qEz (ixN n JS) (q0r h j))
  cases e : q0r h j with
  | none => rw [e] at hc; exact absurd hc.1 (by simp [j3u])
  | some ob =>
   rw [e] at hc
   cases ob with
   | cells us => exact ⟨us,e,qPc hc.1⟩
   | row k xs => exact e
   | lim xs => exact e
theorem qPo {n : Nat} {JS : List Nat} {h os : q1f} {rs : List Nat} (hr : wkH n JS h rs os) : ∀ {js : List Nat},wkH n JS h (js ++ rs) (List.replicate js.length none ++ os)
 | [] => hr
 | j :: js => ⟨trivial,qPo hr⟩
theorem qFq : ∀ {js rs : List Nat} {os : q1f},q6h (js ++ rs) (List.replicate js.length none ++ os) = q6h rs os
 | [],_,_ => rfl
 | j :: js,rs,os => qFq (js := js)
theorem letsW {n : Nat} {a : List U} {h : q1f} {k : List U → q1f → Prop} (L rs : List Nat) (hk : k ((qQv L a).map (qBb (ixN n rs))) (List.replicate n none ++ rs.map fun j => qEz (ixN n rs) (q0r h j))) (hc : okW n L rs a h = true := by rfl) : qUd n a h k := by
 unfold okW at hc
 simp only [Bool.and_eq_true,decide_eq_true_eq] at hc
 obtain ⟨⟨⟨⟨h1,h2⟩,h3⟩,h4⟩,h5⟩ := hc
 refine ⟨⟨rs,_,_,⟨?_,qNr h2,?_⟩,hk⟩⟩
 ·unfold qFj
  have e := qFq (js := List.range n) (rs := rs) (os := rs.map fun j => qEz (ixN n rs) (q0r h j))
  rw [List.length_range] at e
  rw [e]
  have := ((q8d rs (rs.map fun j => qEz (ixN n rs) (q0r h j))).nodup h5)
  simp only [h1,decide_true,Bool.true_and,Bool.and_eq_true,decide_eq_true_eq]
  exact ⟨h4,this⟩
 ·have e := qPo (js := List.range n) (qNx (n := n) (JS := rs) (h := h) h3)
  rw [List.length_range] at e
  exact e
def q5n (c : List Tm) (l nd : List Bool) (n : Nat) : Nat → List Tm × List Int × Bool
 | 0 => (c.take n,List.replicate n 0,false)
 | q + 1 => if nd[q]? = some true ∧ l[q]? = some true then (match c[q]? with
  | some t => ((q5m l (q5n c l nd n q).2.1 (q5n c l nd n q).1 (q5n c l nd n q).2.2 t).1,(q5n c l nd n q).2.1.set q (q5m l (q5n c l nd n q).2.1 (q5n c l nd n q).1 (q5n c l nd n q).2.2 t).2.1,(q5m l (q5n c l nd n q).2.1 (q5n c l nd n q).1 (q5n c l nd n q).2.2 t).2.2)
  | none => q5n c l nd n q) else q5n c l nd n q
def q4r (c : List Tm) (i s : Int) : List Tm × List Int × Bool := q5n c (q2a c s c.length) (q1m c i.toNat) (i.toNat + 1) (i.toNat + 1)
def q6w (c : List Tm) (i s : Int) : List Tm × Int × Int :=
 if q7x c i = true ∧ 0 ≤ s then
  (if bAt (q2a c s c.length) i = true then (if (q4r c i s).2.2 = true ∨ 32000 < cnt (q4r c i s).1 then ([], 0, 2) else ((q4r c i s).1, dAt (q4r c i s).2.1 i, 0))
  else (if (q4r c i s).2.2 = true ∨ 32000 < cnt (q4r c i s).1 + 1 then ([], 0, 2) else ((q4r c i s).1 ++ [q9o 0], cnt (q4r c i s).1, 0)))
 else ([],0,1)
def qRf (r : List Tm × Int × Int) : U := .tup [if r.2.2 = 0 then cU r.1 else q9j,ui r.2.1,ui r.2.2]
theorem qXd (l : List Bool) (d : List Int) (c : List Tm) (bad : Bool) (t : Tm) : cnt c ≤ cnt (q5m l d c bad t).1 ∧ cnt (q5m l d c bad t).1 ≤ cnt c + 5 := by
 unfold q5m q3y q3h q4t qLg
 repeat' split
 all_goals (simp only [q1h]; omega)
theorem qGt (c : List Tm) (l nd : List Bool) (n : Nat) : ∀ q,cnt (q5n c l nd n q).2.1 = n
 | 0 => by unfold q5n cnt; simp
 | q + 1 => by
  have := qGt c l nd n q
  unfold q5n
  split
  ·split
   ·unfold cnt at *
    rw [List.length_set]
    exact this
   ·exact this
  ·exact this
theorem qGu (c : List Tm) (l nd : List Bool) (n : Nat) : ∀ q : Nat,cnt (q5n c l nd n q).1 ≤ cnt c + 5 * q
 | 0 => by
  unfold q5n cnt
  rw [List.length_take]
  omega
 | q + 1 => by
  have := qGu c l nd n q
  unfold q5n
  split
  ·split
   ·have := (qXd l (q5n c l nd n q).2.1 (q5n c l nd n q).1 (q5n c l nd n q).2.2 (by assumption)).2
    push_cast
    omega
   ·push_cast; omega
  ·push_cast; omega
theorem sw {α : Type} {x y : α} {K : α → Prop} (e : x = y) (h : K y) : ∀ z,z = x → K z := fun z hz => by rw [hz,e]; exact h
theorem wrE {e v : Int} {K : Int → Prop} (h : K v) (hv : e = v) (hp : -9223372036854775808 ≤ e ∧ e ≤ 9223372036854775807 := by omega) : ∀ r,r = IntKind.i64.wrap e → K r := fun r hr => by rw [hr,wi64 hp.1 hp.2,hv]; exact h
theorem lnE {α : Type} {xs : List α} {v : Int} {K : Int → Prop} (h : K v) (hv : cnt xs = v) : ∀ n,n = cnt xs → K n := fun n hn => by rw [hn,hv]; exact h
def mkX (l ds : Rows) (dn n cp : Int) (bad : Bool) (xs : Rows) : q1f := [none,none,none,some (.cells [.sl 5 n cp 7,.s 1 l,.sl 4 dn dn 1,ub bad]),some (.row 1 ds),some (.row 7 xs)]
theorem qRt {a : List U} {h : q1f} {k : List U → q1f → Prop} {l ds xs : Rows} {dn n cp : Int} {bad : Bool} (L : List Nat) (m d c : Nat) (hk : k ((qQv L a).map (qBb (ixN 3 [m,d,c]))) (mkX l ds dn n cp bad xs)) (hh : [m,d,c].map (fun j => qEz (ixN 3 [m,d,c]) (q0r h j)) = [some (.cells [.sl 5 n cp 7,.s 1 l,.sl 4 dn dn 1,ub bad]),some (.row 1 ds),some (.row 7 xs)] := by rfl) (hc : okW 3 L [m,d,c] a h = true := by rfl) : qUd 3 a h k := by
 refine letsW L [m,d,c] ?_ hc
 rw [hh]
 exact hk
theorem qCo {c : List Tm} {s : Int} {q : Nat} {t : Tm} (ht : c[q]? = some t) (h1 : t.k = 1) : ∀ N,(q2a c s N)[q]? = some false
 | 0 => by
  have := (List.getElem?_eq_some_iff.1 ht).1
  unfold q2a
  rw [List.getElem?_replicate,if_pos this]
 | N + 1 => by
  have ih := qCo (s := s) ht h1 N
  unfold q2a
  split
  ·rename_i t' ht'
   unfold qKj
   split
   ·exact ih
   ·rename_i hk
    rw [List.getElem?_set]
    split
    ·rename_i e
     subst e
     rw [ht] at ht'
     injection ht' with ht'
     rw [← ht'] at hk
     exact absurd h1 hk
    ·exact ih
  ·exact ih
theorem der_no {c : List Tm} {l nd : List Bool} {m : Nat} {q : Int} (h0 : 0 ≤ q) (h : ¬ (nd[q.toNat]? = some true ∧ l[q.toNat]? = some true)) : q5n c l nd m (q + 1).toNat = q5n c l nd m q.toNat := by
 rw [show (q + 1).toNat = q.toNat + 1 by omega,q5n,if_neg h]
theorem j2o {c : List Tm} {l nd : List Bool} {m : Nat} {q : Int} {cc : List Tm} {dd : List Int} {bd : Bool} {t : Tm} (h0 : 0 ≤ q) (h : q5n c l nd m q.toNat = (cc,dd,bd)) (h1 : nd[q.toNat]? = some true) (h2 : l[q.toNat]? = some true) (ht : c[q.toNat]? = some t) : q5n c l nd m (q + 1).toNat = ((q5m l dd cc bd t).1,dd.set q.toNat (q5m l dd cc bd t).2.1,(q5m l dd cc bd t).2.2) := by
 rw [show (q + 1).toNat = q.toNat + 1 by omega,q5n,if_pos ⟨h1,h2⟩,ht,h]
theorem share {P : Rows → Prop} {Q : Prop} (X : Rows) (h1 : (∀ dr,dr = X → P dr) → Q) (h2 : ∀ dr,dr = X → P dr) : Q := h1 h2
theorem j0s {x y q : Int} (h1 : x ≤ y + 5 * q) (h2 : y ≤ 1000) (h3 : q ≤ y) : ¬ 32000 < x + 1 ∧ ¬ 32000 < x := by omega
theorem qUb (x : List Tm) (i : Int) : U.tup [.s 7 (x.map tU),ui i,ui 0] = qRf (x,i,0) := by unfold qRf cU; rw [if_pos rfl]
def qMh (us : List U) (u : U) : Prop := ∃ c i s,(∀ t ∈ c,LB t.q) ∧ cnt c ≤ 1000 ∧ us = [cU c,ui i,ui s] ∧ u = qRf (q6w c i s)
theorem qL : q0w Tryz.prog 11 qMh := j0l [(35,q6n),(15,qIv)] [(36,qMd),(37,mkR 99000 j2e),(38,mkR 100000 j1m)] (q0c qHw (q0c qOq q0v)) (q1z qVe (q1z qXj (q1z qUz q3z))) Tryz.func11 (by kernel_rfl) (by kernel_rfl) fun us u hR => by
 obtain ⟨c,i,s,hq,hn,rfl,hu⟩ := hR
 obtain ⟨r,hr⟩ : ∃ r,(cnt c).toNat + 10 < r := ⟨_,Nat.lt_succ_self _⟩
 refine ⟨r,fun C E hC hE => ?_⟩
 have k1 := hC 35 q6n (by simp) _ _ ⟨c,i,hq,by omega,rfl,rfl⟩
 have k2 := hC 15 qIv (by simp) _ _ ⟨c,i,s,hq,by omega,rfl,rfl⟩
 have hcop := hE 36 qMd (by simp)
 have hterm := hE 37 (mkR 99000 j2e) (by simp)
 have hlit := hE 38 (mkR 100000 j1m) (by simp)
 have hcn := fun i (h0 : 0 ≤ i) (h1 : i < cnt c) => q2l (c := c) tU h0 h1
 have hc := q2r c tU
 have hc0 := q6s c
 have hnl := q6l c i.toNat
 have hll := q7g c s c.length
 unfold q6w at hu
 unfold qAy at k1
 unfold qOk at k2
 clear hC hE
 cases hmc : q7x c i
 ·rw [hmc,if_neg (by simp)] at k1
  rw [hmc,if_neg (by simp)] at hu
  unfold cU at *
  generalize c.map tU = xs at *
  clear hcop hterm hlit k2
  cbv
  (repeat ((refine cl ?_); cbv))
  exact hu.symm
 rw [hmc,if_pos rfl] at k1 k2
 rw [hmc] at hu
 have hm3 : 0 ≤ i ∧ i < cnt c ∧ q4j c = true := by
  unfold q7x at hmc
  simp only [Bool.and_eq_true,decide_eq_true_eq] at hmc
  exact ⟨hmc.1.1,hmc.1.2,hmc.2⟩
 obtain ⟨hi0,hi1,hg⟩ := hm3
 have hok : ∀ (q : Int) t,0 ≤ q → c[q.toNat]? = some t → q1n t q = true := fun q t h0 ht => by
  have := q1j.1 hg q.toNat t ht
  rwa [show (q.toNat : Int) = q by omega] at this
 obtain ⟨nd,hnd⟩ : ∃ nd,nd = q1m c i.toNat := ⟨_,rfl⟩
 obtain ⟨l,hl⟩ : ∃ l,l = q2a c s c.length := ⟨_,rfl⟩
 rw [← hnd] at k1 hnl
 rw [← hl] at k2 hll hu
 obtain ⟨y,nds',hns⟩ : ∃ y ys,uB nd = y :: ys := by
  cases h : uB nd with
  | nil =>
   have := uB_len nd
   rw [h,hnl] at this
   have h0 : cnt ([] : Rows) = 0 := rfl
   omega
  | cons y ys => exact ⟨y,ys,rfl⟩
 rcases Decidable.em (0 ≤ s) with hs | hs
 case inr =>
  rw [if_neg (fun h => hs h.2)] at hu
  rw [hns] at k1
  clear hcop hterm hlit k2
  unfold cU at *
  generalize c.map tU = xs at *
  cbv
  (repeat ((first | refine tt ?_ | refine cl ?_); cbv))
  exact hu.symm
 rw [if_pos ⟨rfl,hs⟩] at hu
 have hndx := fun j (h0 : 0 ≤ j) (h1 : j < cnt nd) => uB_nth (s := nd) h0 h1
 have hlx := fun j (h0 : 0 ≤ j) (h1 : j < cnt l) => uB_nth (s := l) h0 h1
 obtain ⟨nds,hnds⟩ : ∃ nds,nds = uB nd := ⟨_,rfl⟩
 obtain ⟨ls,hls⟩ : ∃ ls,ls = uB l := ⟨_,rfl⟩
 rw [← hls] at k2 hlx
 rw [← hnds] at hndx
 rw [hns] at k1
 rw [hns] at hnds
 unfold cU at *
 -- the terms up to the root
 obtain ⟨ct,hct⟩ : ∃ ct,ct = c.take (i.toNat + 1) := ⟨_,rfl⟩
 have hctn : cnt ct = i + 1 := by
  rw [hct]
  unfold cnt at *
  rw [List.length_take]
  omega
 have hcop := fun h k (hk : k (qBb (back [] h.length) (.sl 0 (cnt ct) (cnt ct) 7)) (q9l [] h [some (.row 7 (ct.map tU))])) (hh : seeB [] [.s 7 (ct.map tU)] h = true) => hcop [.s 7 (ct.map tU)] h k (see []    ⟨ct, fun t ht => by
  have ht := List.mem_of_mem_take (hct ▸ ht)
  refine ⟨hq t ht,fun h1 => ?_⟩
  obtain ⟨p,hp,rfl⟩ := List.mem_iff_getElem.1 ht
  have := q1j.1 hg p _ (List.getElem?_eq_getElem hp)
  unfold q1n at this
  rw [if_pos h1,Bool.and_eq_true] at this
  exact this.2, by omega, rfl, rfl, hk⟩ hh)
 have hctx := fun q (h0 : 0 ≤ q) (h1 : q < cnt ct) => q2l (c := ct) tU h0 h1
 have hctc : ∀ (q : Int),0 ≤ q → q < i + 1 → ct[q.toNat]? = c[q.toNat]? := fun q h0 hq => by rw [hct,List.getElem?_take,if_pos (by omega)]
 have htk : ∀ e : Int,e = i + 1 → (c.map tU).take e.toNat = ct.map tU := fun e he => by rw [he,hct,List.map_take,show (i + 1).toNat = i.toNat + 1 by omega]
 have hctm := q2r ct tU
 have hrow0 : qHi ct (cnt ct) (cnt ct) (ct.map tU) := ⟨rfl,by rw [List.take_of_length_le (by rw [← hctm]; unfold cnt; omega)],hctm.symm,Int.le_refl _⟩
 have hder0 : q5n c l nd (i.toNat + 1) 0 = (ct,List.replicate (i.toNat + 1) 0,false) := by rw [hct]; rfl
 generalize c.map tU = xs at *
 generalize hcts : ct.map tU = cts at *
 generalize hnn : cnt ct = n0 at *
 clear hct hg
 cbv
 (repeat ((first | refine ff ?_ | refine wr fun _ _ => ?_ | refine cl ?_); cbv))
 rename_i e1 he1 e2 he2
 have h1 : n0 = e1 := by omega
 subst h1
 have h2 : n0 = e2 := by omega
 subst h2
 clear he1 he2
 apply share (uN (List.replicate (i.toNat + 1) 0))
 ·intro key
  repeat' (first | refine And.intro ?_ ?_ | (refine hcop _ _ ?_ rfl; cbv) | (refine cl ?_; cbv) | (refine sd ?_ (by omega); refine sw (htk _ (by omega)) ?_; cbv) | (refine sd ?_ (by omega); refine rp fun dr hdr hdc => ?_; cbv) | (refine wrE (v := n0) ?_ (by omega); cbv) | (refine lnE (v := n0) ?_ (by omega); cbv))
  all_goals
   (first | refine qRt [1,9,10,40,41,42] 2 1 0 ?_ | refine qRt [1,9,10,40,41,42] 2 0 1 ?_)
   refine key dr ?_
   rw [hdr]
   unfold uN
   rw [List.map_replicate]
   congr 1
   omega
 ·intro dr e0
  rw [← hnds]
  clear hcop
  cbv
  refine q2g (fun j a h => ∃ (q : Int) (cc : List Tm) (dd : List Int) (bd : Bool) (n cp : Int) (rw ds : Rows),0 ≤ q ∧ q ≤ n0 ∧ j = (n0 - q).toNat ∧ q5n c l nd (i.toNat + 1) q.toNat = (cc,dd,bd) ∧ qHi cc n cp rw ∧ ds = uN dd ∧ a = [.lost,ui i,.lost,.lost,.lost,.lost,.lost,.lost,.lost,.s 1 nds,.ptr 3 0,.lost,.lost,.lost,.lost,.lost,.lost,.lost,.lost,.lost,.lost,.lost,.lost,.lost,.lost,.lost,.lost,.lost,.lost,.lost,.lost,.lost,.lost,.lost,.lost,.lost,.lost,.lost,.lost,.lost,.s 7 cts,ui n0,ui q,.lost,.lost,.lost,.lost,.lost,.lost,.lost,.lost,.lost,.lost,.lost,.lost,.lost,.lost,.lost,.lost,.lost,.lost,.lost,.lost,.lost,.lost,.lost,.lost,.lost,.lost,.lost,.lost,.lost,.lost,.lost,.lost,.lost,.lost,.lost,.lost,.lost,.lost,.lost,.lost,.lost,.lost,.lost,.lost,.lost,.lost,.lost,.lost,.lost,.lost,.lost,.lost,.lost,.lost,.lost,.lost,.lost,.lost,.lost,.lost,.lost] ∧ h = mkX ls ds n0 n cp bd rw) ?_ r n0.toNat _ _ (by omega) ⟨0,ct,_,false,n0,n0,cts,dr,by omega,by omega,by omega,hder0,hrow0,e0,rfl,rfl⟩
  clear e0 hder0 hrow0
  rintro j a h K ⟨q,cc,dd,bd,n,cp,rw,ds,q0,q1,hj,hder,hrow,hds,rfl,rfl⟩ hK
  have hdl : cnt dd = n0 := by
   have := qGt c l nd (i.toNat + 1) q.toNat
   rw [hder] at this
   dsimp only at this
   omega
  have hdc : cnt cc ≤ cnt c + 5 * q := by
   have := qGu c l nd (i.toNat + 1) q.toNat
   rw [hder] at this
   dsimp only at this
   omega
  have hen := hrow.en
  have hqc : q ≤ cnt c := by omega
  rcases Decidable.em (q < n0) with hlt | hlt
  ·obtain ⟨bN,hbN,hzN⟩ := hndx q q0 (by omega)
   obtain ⟨bL,hbL,hzL⟩ := hlx q q0 (by omega)
   obtain ⟨t,ht,hy⟩ := hctx q q0 (by omega)
   rw [hctc q q0 (by omega)] at ht
   have hno := der_no (c := c) (l := l) (nd := nd) (m := i.toNat + 1) q0
   have hK' := fun cc dd bd n cp rw ds (h1 : q5n c l nd (i.toNat + 1) (q + 1).toNat = (cc,dd,bd)) (h2 : qHi cc n cp rw) (h3 : ds = uN dd) => hK (n0 - (q + 1)).toNat _ _ (by omega) ⟨q + 1,cc,dd,bd,n,cp,rw,ds,by omega,by omega,rfl,h1,h2,h3,rfl,rfl⟩
   have hk1 : bL = true → t.k ≠ 1 := fun e h1 => by
    have := qCo (s := s) ht h1 c.length
    rw [← hl,hbL,e] at this
    injection this with this
    cases this
   have htm := q1v (hok q t q0 ht)
   clear hK hndx hlx hctx hctc hlit hu
   cases bN
   ·have hno := hno (fun h => by rw [hbN] at h; injection h.1 with h; cases h)
    have hK' := hK' cc dd bd n cp rw ds (hno.trans hder) hrow hds
    obtain ⟨kd,ta,tb,m,ts,tl,td⟩ := t
    clear hterm
    cbv
    (repeat ((first | refine tt ?_ | refine wr fun _ _ => ?_ | refine el ?_); cbv))
    rename_i q' hq'
    refine qRt [1,9,10,40,41,42] 3 4 5 ?_
    rw [hq']
    exact hK'
   cases bL
   ·have hno := hno (fun h => by rw [hbL] at h; injection h.2 with h; cases h)
    have hK' := hK' cc dd bd n cp rw ds (hno.trans hder) hrow hds
    obtain ⟨kd,ta,tb,m,ts,tl,td⟩ := t
    clear hterm
    cbv
    (repeat ((first | refine tt ?_ | refine wr fun _ _ => ?_ | refine el ?_); cbv))
    rename_i q' hq'
    refine qRt [1,9,10,40,41,42] 3 4 5 ?_
    rw [hq']
    exact hK'
   ·have hyes := j2o q0 hder hbN hbL ht
    obtain ⟨r7,er⟩ : ∃ r : MS,r = q5m l dd cc bd t := ⟨_,rfl⟩
    rw [← er] at hyes
    obtain ⟨x0,hx0,hzD⟩ := qRw (d := dd) (k := q) q0 (by omega)
    rw [← hds] at hzD
    have hcd : t.k = 2 ∨ (t.k = 7 ∧ inD l dd t.a) ∨ (t.k = 8 ∧ inD l dd t.a ∧ -1000000 ≤ t.n ∧ t.n ≤ 1000000) ∨ ((t.k = 3 ∨ t.k = 4 ∨ t.k = 5 ∨ t.k = 6) ∧ inD l dd t.a ∧ inD l dd t.b) := by
     rcases htm with h | ⟨h,h2⟩ | ⟨h,h2,h3⟩ | ⟨h,h2⟩ | ⟨h,h2,h3⟩
     ·exact absurd h (hk1 rfl)
     ·exact .inl h
     ·exact .inr (.inr (.inr ⟨h,⟨by omega,by omega,by omega⟩,⟨by omega,by omega,by omega⟩⟩))
     ·exact .inr (.inl ⟨h,⟨by omega,by omega,by omega⟩⟩)
     ·exact .inr (.inr (.inl ⟨h,⟨by omega,by omega,by omega⟩,by omega,by omega⟩))
    have hset : ∀ y ys,y = r7.2.1 → ys = ds.set q.toNat [ui y] → ys = uN (dd.set q.toNat r7.2.1) := fun y ys e1 e2 => by
     rw [e2,hds,e1]
     unfold uN
     rw [List.map_set]
    obtain ⟨kd,ta,tb,m,ts,tl,td⟩ := t
    have hcall := fun h k (hk : ∀ i n' cp' b' ys,i = r7.2.1 → b' = r7.2.2 → qHi r7.1 n' cp' ys → k (qBb (back [3,4,5] h.length) (ui i)) (q9l [3,4,5] h (mkE ls ds n0 n' cp' b' ys))) (hh : [3,4,5].map (fun j => qEz (ix [3,4,5]) (q0r h j)) = mkH ls ds n0 n cp bd rw) (hb : seeB [3,4,5] [.ptr 3 0,.agg (tU ⟨kd,ta,tb,m,(ts,tl,td)⟩)] h = true) => hterm [.ptr 3 0,.agg (tU ⟨kd,ta,tb,m,(ts,tl,td)⟩)] h k (see [3,4,5] ⟨cc,l,dd,ls,ds,n0,n,cp,bd,rw,r7,⟨hls,hds,hdl.symm,by omega,hrow⟩,⟨_,rfl,hcd,er⟩,hh,hk⟩ hb)
    clear hterm htm hcd er hno hk1
    cbv
    (repeat ((first | refine tt ?_ | refine el ?_); cbv))
    refine ⟨?_, ?_⟩ <;> (
     refine hcall _ _ (fun i2 n2 cp2 b2 ys2 g1 g2 g3 => ?_) rfl rfl
     cbv
     (repeat ((first | refine wr fun _ _ => ?_ | refine sd ?_ | refine el ?_ | intro _ _); cbv))
     rename_i zs e q' hq'
     have e2 := hset _ zs g1 e
     have hK' := hK' r7.1 (dd.set q.toNat r7.2.1) b2 n2 cp2 ys2 zs (by rw [g2]; exact hyes) g3 e2
     clear e hcall
     refine qRt [1,9,10,40,41,42] 3 4 7 ?_
     rw [hq']
     exact hK')
  ·have hqi : q.toNat = i.toNat + 1 := by omega
   have hD : q4r c i s = (cc,dd,bd) := by
    unfold q4r
    rw [← hl,← hnd]
    rw [hqi] at hder
    exact hder
   rw [hD] at hu
   dsimp only at hu
   obtain ⟨bR,hbR,hzR⟩ := hlx i hi0 (by omega)
   obtain ⟨xR,hxR,hzX⟩ := qRw (d := dd) hi0 (by omega)
   rw [← hds] at hzX
   rw [qVj hbR,qZy hxR] at hu
   have hle := hrow.le
   have hec := hrow.ec
   have htk2 := hrow.tk
   clear hK hndx hlx hctx hctc hterm hok hder hD hbR
   cases bR
   ·rw [if_neg (by simp)] at hu
    have hcall := fun h k (hk : ∀ i n' cp' b' ys,i = cnt cc → b' = bd → qHi (cc ++ [q9o 0]) n' cp' ys → k (qBb (back [3,4,5] h.length) (ui i)) (q9l [3,4,5] h (mkE ls ds n0 n' cp' b' ys))) (hh : [3,4,5].map (fun j => qEz (ix [3,4,5]) (q0r h j)) = mkH ls ds n0 n cp bd rw) (hb : seeB [3,4,5] [.ptr 3 0,ui 0] h = true) => hlit [.ptr 3 0,ui 0] h k (see [3,4,5] ⟨cc,l,dd,ls,ds,n0,n,cp,bd,rw,(cc ++ [q9o 0],cnt cc,bd),⟨hls,hds,hdl.symm,by omega,hrow⟩,⟨0,by omega,by omega,rfl,rfl⟩,hh,hk⟩ hb)
    clear hlit
    cases bd
    ·cbv
     (repeat ((first | refine ff ?_ | with_reducible refine bq ?_ | refine sd ?_ | refine el ?_); cbv))
     refine hcall _ _ (fun i2 n2 cp2 b2 ys2 g1 g2 g3 => ?_) rfl rfl
     subst g2
     have m2 := g3.en
     rw [q1h] at m2
     have m3 := g3.le
     have m4 := g3.ec
     have m5 := g3.tk
     clear hcall g3
     rw [if_neg (fun h => h.elim (fun h => by cases h) (j0s hdc hn hqc).1),← g1] at hu
     cbv
     (repeat ((first | refine ff ?_ | refine sd ?_ | intro _ _); cbv))
     rename_i zs e
     rw [hu,e,m5]
     exact qUb _ i2
    ·rw [if_pos (.inl rfl)] at hu
     cbv
     (repeat ((first | refine ff ?_ | with_reducible refine bq ?_ | refine sd ?_ | refine el ?_); cbv))
     refine hcall _ _ (fun i2 n2 cp2 b2 ys2 g1 g2 g3 => ?_) rfl rfl
     subst g2
     cbv
     (repeat ((first | refine ln fun _ _ _ => ?_ | refine tt ?_ | refine ff ?_ | refine wr fun _ _ => ?_ | refine rp fun _ _ _ => ?_ | with_reducible refine bq ?_ | refine cl ?_ | refine sd ?_ | refine el ?_ | intro _ _); cbv))
     exact hu.symm
   ·rw [if_pos rfl] at hu
    clear hlit
    cases bd
    ·rw [if_neg (fun h => h.elim (fun h => by cases h) (j0s hdc hn hqc).2)] at hu
     cbv
     (repeat ((first | refine ff ?_ | with_reducible refine bq ?_ | refine sd ?_ | refine el ?_ | intro _ _); cbv))
     rename_i zs e
     rw [hu,e,htk2]
     exact qUb cc xR
    ·rw [if_pos (.inl rfl)] at hu
     cbv
     (repeat ((first | refine ff ?_ | with_reducible refine bq ?_ | refine sd ?_ | refine el ?_); cbv))
     exact hu.symm
end Go.Proofs.YtjkcmnedolfkjaaGreat.Rd
end
