/- Part 3 of the proof. -/
import Derived.Below
import Derived.Deep.Draws
import Derived.Deep.AppendLies
import Derived.Maps.AppendAt
import Derived.OwnWalk
import Derived.Laws.BytesArg
import Derived.Laws.MakeOwn
import Derived.Laws.OwnMore
import Derived.Deep.OwnRows
import Derived.Tactics
import Derived.Lib.ConvBytes
import Derived.Laws.Slices
import Derived.WalkKit
import Derived.KernelRfl
import Derived.RowKit3
import Derived.Deep.LoopGhost
import Derived.Deep.QuietTactic
import Derived.BigQuiet
import Derived.WideLaws
import Derived.Deep.DeepCutAuto
import Derived.Deep.CutBlock
import Derived.Deep.RegionHeld3
import Derived.Laws.Rows
import Derived.Lib.AppendStr
import Derived.ArgAppend
import Derived.Laws.IdiomCopy
import Derived.RowKit
import Derived.OrdersHeld
import Derived.Laws.BitsLemmas
import Derived.Laws.Bits64b
import Derived.Test.YtjkcmnedolfkjaaGreatProg
import Derived.Laws.StructEq
import Derived.Laws.BitsAllLaws
import Derived.Test.YtjkcmnedolfkjaaGreatW2
set_option linter.unusedVariables false
set_option linter.unusedSimpArgs false
set_option maxHeartbeats 8000000
set_option maxRecDepth 100000
section
set_option linter.unusedVariables false
set_option linter.unusedSimpArgs false
namespace Go.Proofs.YtjkcmnedolfkjaaGreat.Num
open Go.RowKit Go.Proofs.YtjkcmnedolfkjaaGreatW.PrintWords
def q0i (l : List Int) : Prop := ∀ x,x ∈ l → 0 ≤ x ∧ x < 4294967296
def V : List Int → Nat
 | [] => 0
 | x :: l => x.toNat + 4294967296 * V l
def N (n : Nat) : List Int := if h : n = 0 then [] else ((n % 4294967296 : Nat) : Int) :: N (n / 4294967296)
termination_by n
decreasing_by omega
def len (n : Nat) : Nat := (N n).length
theorem q5j : N 0 = [] := by unfold N; rfl
theorem qNe {n : Nat} (h : n ≠ 0) : N n = ((n % 4294967296 : Nat) : Int) :: N (n / 4294967296) := by rw [N,dif_neg h]
theorem q8s : len 0 = 0 := by unfold len; rw [q5j]; rfl
theorem qWd {n : Nat} (h : n ≠ 0) : len n = len (n / 4294967296) + 1 := by unfold len; rw [qNe h]; rfl
theorem q5y : V [] = 0 := rfl
theorem q4f (x : Int) (l : List Int) : V (x :: l) = x.toNat + 4294967296 * V l := rfl
theorem q0i.nil : q0i [] := fun _ h => by cases h
theorem q0i.cons {x : Int} {l : List Int} (h0 : 0 ≤ x) (h1 : x < 4294967296) (h : q0i l) : q0i (x :: l) := by
 intro y hy
 rcases List.mem_cons.1 hy with rfl | hy
 ·exact ⟨h0,h1⟩
 ·exact h y hy
theorem q0i.head {x : Int} {l : List Int} (h : q0i (x :: l)) : 0 ≤ x ∧ x < 4294967296 := h x (List.mem_cons_self ..)
theorem q0i.tail {x : Int} {l : List Int} (h : q0i (x :: l)) : q0i l := fun y hy => h y (List.mem_cons_of_mem _ hy)
theorem q0i.app {a b : List Int} (ha : q0i a) (hb : q0i b) : q0i (a ++ b) := by
 intro y hy
 rcases List.mem_append.1 hy with h | h
 ·exact ha y h
 ·exact hb y h
theorem q0i.left {a b : List Int} (h : q0i (a ++ b)) : q0i a := fun y hy => h y (List.mem_append_left _ hy)
theorem q0i.right {a b : List Int} (h : q0i (a ++ b)) : q0i b := fun y hy => h y (List.mem_append_right _ hy)
theorem q0i.take {l : List Int} (h : q0i l) (n : Nat) : q0i (l.take n) := fun y hy => h y (List.mem_of_mem_take hy)
theorem q0i.drop {l : List Int} (h : q0i l) (n : Nat) : q0i (l.drop n) := fun y hy => h y (List.mem_of_mem_drop hy)
theorem q0i.set {l : List Int} (h : q0i l) (i : Nat) {x : Int} (h0 : 0 ≤ x) (h1 : x < 4294967296) : q0i (l.set i x) := by
 intro y hy
 rcases List.mem_or_eq_of_mem_set hy with h2 | rfl
 ·exact h y h2
 ·exact ⟨h0,h1⟩
theorem q0i.rep (n : Nat) : q0i (List.replicate n (0 : Int)) := fun y hy => by
 have := List.eq_of_mem_replicate hy
 omega
theorem q0i.one {x : Int} (h0 : 0 ≤ x) (h1 : x < 4294967296) : q0i [x] := q0i.cons h0 h1 q0i.nil
theorem q0i.splice {xs ys : List Int} (hx : q0i xs) (hy : q0i ys) (n : Nat) : q0i (splice xs n ys) := (hx.take n).app ((hy.take _).app (hx.drop _))
theorem qAj (a b : List Int) : V (a ++ b) = V a + 4294967296 ^ a.length * V b := by
 induction a with
 | nil => simp [V]
 | cons x a ih => rw [List.cons_append,q4f,q4f,ih,List.length_cons,Nat.pow_succ,Nat.mul_add,Nat.mul_comm (4294967296 ^ a.length) 4294967296,Nat.mul_assoc]; omega
theorem q9i {l : List Int} (h : q0i l) : V l < 4294967296 ^ l.length := by
 induction l with
 | nil => simp [V]
 | cons x l ih =>
  have := ih h.tail
  have := h.head
  rw [q4f,List.length_cons,Nat.pow_succ]
  omega
theorem qMv (n : Nat) : V (List.replicate n (0 : Int)) = 0 := by
 induction n with
 | zero => rfl
 | succ n ih => rw [List.replicate_succ,q4f,ih]; rfl
theorem qCc (l : List Int) (x : Int) : V (l ++ [x]) = V l + 4294967296 ^ l.length * x.toNat := by rw [qAj,q4f,q5y]; rfl
theorem q4l (l : List Int) (n : Nat) (h : n ≤ l.length) : V l = V (l.take n) + 4294967296 ^ n * V (l.drop n) := by
 have e := qAj (l.take n) (l.drop n)
 rw [List.take_append_drop,List.length_take,Nat.min_eq_left h] at e
 exact e
theorem qBz {l : List Int} (hl : q0i l) (n : Nat) (h : n ≤ l.length) : V (l.take n) = V l % 4294967296 ^ n := by
 have h1 := q4l l n h
 have h2 := q9i (hl.take n)
 rw [List.length_take,Nat.min_eq_left h] at h2
 rw [h1,Nat.add_mul_mod_self_left,Nat.mod_eq_of_lt h2]
theorem qPr {l : List Int} (hl : q0i l) (n : Nat) (h : n ≤ l.length) : V (l.drop n) = V l / 4294967296 ^ n := by
 have h1 := q4l l n h
 have h2 := q9i (hl.take n)
 rw [List.length_take,Nat.min_eq_left h] at h2
 rw [h1,Nat.add_mul_div_left _ _ (Nat.pow_pos (by omega)),Nat.div_eq_of_lt h2,Nat.zero_add]
theorem q1d {l : List Int} (h : q0i l) (i : Int) : 0 ≤ rd l i ∧ rd l i < 4294967296 := by
 unfold rd
 rw [List.getD_eq_getElem?_getD]
 cases hg : l[i.toNat]? with
 | none => simp
 | some x => exact h x (List.mem_of_getElem? hg)
theorem q6z (l : List Int) (i : Nat) : rd l (i : Int) = l.getD i 0 := by unfold rd; rw [Int.toNat_natCast]
theorem qTx (l : List Int) (i : Nat) (h : i < l.length) : l.take (i + 1) = l.take i ++ [rd l (i : Int)] := by
 rw [List.take_succ_eq_append_getElem h,q6z,List.getD_eq_getElem?_getD,List.getElem?_eq_getElem h]
 rfl
theorem q2n (l : List Int) (i : Nat) (h : i < l.length) : V (l.take (i + 1)) = V (l.take i) + 4294967296 ^ i * (rd l (i : Int)).toNat := by
 rw [qTx l i h,qCc,List.length_take,Nat.min_eq_left (by omega)]
theorem q4k (l : List Int) (i : Nat) (h : i < l.length) : l.drop i = rd l (i : Int) :: l.drop (i + 1) := by
 rw [List.drop_eq_getElem_cons h,q6z,List.getD_eq_getElem?_getD,List.getElem?_eq_getElem h]
 rfl
theorem q6d (l : List Int) (i : Nat) (h : l.length ≤ i) : rd l (i : Int) = 0 := by
 rw [q6z,List.getD_eq_getElem?_getD,List.getElem?_eq_none h]
 rfl
theorem q0t (n : Nat) : q0i (N n) := by
 induction n using Nat.strongRecOn with
 | _ n ih =>
  by_cases h : n = 0
  ·subst h; rw [q5j]; exact q0i.nil
  ·rw [qNe h]
   exact q0i.cons (by omega) (by omega) (ih _ (by omega))
theorem V_N (n : Nat) : V (N n) = n := by
 induction n using Nat.strongRecOn with
 | _ n ih =>
  by_cases h : n = 0
  ·subst h; rw [q5j]; rfl
  ·rw [qNe h,q4f,ih _ (by omega)]
   omega
theorem N_V {l : List Int} (h : q0i l) (hl : ∀ h : l ≠ [],l.getLast h ≠ 0) : N (V l) = l := by
 induction l with
 | nil => exact q5j
 | cons x l ih =>
  have hx := h.head
  have hne : V (x :: l) ≠ 0 := by
   intro h0
   rw [q4f] at h0
   cases l with
   | nil => have := hl (by simp); simp at this; omega
   | cons y l =>
    have h1 := ih h.tail (fun h => by have := hl (by simp); rwa [List.getLast_cons h] at this)
    have h2 : V (y :: l) = 0 := by omega
    rw [h2,q5j] at h1
    cases h1
  rw [qNe hne]
  have e1 : V (x :: l) % 4294967296 = x.toNat := by rw [q4f,Nat.add_mul_mod_self_left,Nat.mod_eq_of_lt (by omega)]
  have e2 : V (x :: l) / 4294967296 = V l := by rw [q4f,Nat.add_mul_div_left _ _ (by omega),Nat.div_eq_of_lt (by omega),Nat.zero_add]
  rw [e1,e2]
  have e3 : N (V l) = l := ih h.tail (fun hh => by have := hl (by simp); rwa [List.getLast_cons hh] at this)
  rw [e3]
  congr 1
  omega
theorem j0i (n : Nat) : ∀ h : N n ≠ [],(N n).getLast h ≠ 0 := by
 induction n using Nat.strongRecOn with
 | _ n ih =>
  intro h
  by_cases h0 : n = 0
  ·subst h0; exact absurd q5j h
  ·have e := qNe h0
   by_cases h1 : n / 4294967296 = 0
   ·rw [h1,q5j] at e
    simp only [e,List.getLast_singleton]
    omega
   ·have h2 : N (n / 4294967296) ≠ [] := by rw [qNe h1]; simp
    have h3 := ih _ (by omega) h2
    simp only [e]
    rw [List.getLast_cons h2]
    exact h3
theorem q2x {n k : Nat} : len n ≤ k ↔ n < 4294967296 ^ k := by
 induction k generalizing n with
 | zero =>
  rw [Nat.pow_zero]
  constructor
  ·intro h
   by_cases h0 : n = 0
   ·omega
   ·rw [qWd h0] at h; omega
  ·intro h
   obtain rfl : n = 0 := by omega
   rw [q8s]
   omega
 | succ k ih =>
  by_cases h0 : n = 0
  ·subst h0
   rw [q8s]
   constructor
   ·intro _; exact Nat.pow_pos (by omega)
   ·intro _; omega
  ·rw [qWd h0,Nat.pow_succ]
   have := @ih (n / 4294967296)
   rw [Nat.add_le_add_iff_right,this,Nat.div_lt_iff_lt_mul (by omega)]
theorem q7l (n : Nat) : n < 4294967296 ^ len n := q2x.1 (Nat.le_refl _)
theorem q7s {l : List Int} (h : q0i l) : len (V l) ≤ l.length := q2x.2 (q9i h)
theorem q2h {a b : Nat} (h : a ≤ b) : len a ≤ len b := q2x.2 (Nat.lt_of_le_of_lt h (q7l b))
theorem q1e (n : Nat) : (N n).length = len n := rfl
theorem q3m {n : Nat} : len n = 0 ↔ n = 0 := by
 constructor
 ·intro h
  have := q7l n
  rw [h] at this
  omega
 ·rintro rfl; exact q8s
theorem qTi {l : List Int} (h : q0i l) : l.take (len (V l)) = N (V l) := by
 have hle := q7s h
 have e : V (l.take (len (V l))) = V l := by rw [qBz h _ hle,Nat.mod_eq_of_lt (q7l _)]
 have hlen : (l.take (len (V l))).length = len (V l) := by rw [List.length_take,Nat.min_eq_left hle]
 rw [← N_V (h.take (len (V l))) ?_,e]
 intro hne h0
 have h1 := List.dropLast_concat_getLast hne
 rw [h0] at h1
 have h2 := qAj (l.take (len (V l))).dropLast [0]
 rw [h1,e,q4f,q5y] at h2
 have h3 : V (l.take (len (V l))).dropLast < 4294967296 ^ (len (V l) - 1) := by
  have := q9i (l := (l.take (len (V l))).dropLast) (fun y hy => h.take _ y (by rw [List.dropLast_eq_take] at hy; exact List.mem_of_mem_take hy))
  rwa [List.length_dropLast,hlen] at this
 have h4 : len (V l) ≤ len (V l) - 1 := q2x.2 (by simp at h2; omega)
 have h5 : len (V l) ≠ 0 := by
  intro hz
  rw [hz] at hne
  simp at hne
 omega
theorem V_set {l : List Int} (i : Nat) (x : Int) (h : i < l.length) : V (l.set i x) + 4294967296 ^ i * (rd l (i : Int)).toNat = V l + 4294967296 ^ i * x.toNat := by
 have h1 := q4l l i (by omega)
 rw [q4k l i h,q4f] at h1
 have h2 := q4l (l.set i x) i (by rw [List.length_set]; omega)
 rw [List.drop_set,if_neg (by omega),Nat.sub_self,q4k l i h,List.set_cons_zero,q4f,List.take_set,List.set_eq_of_length_le (l := l.take i) (by rw [List.length_take]; omega)] at h2
 rw [h1,h2,Nat.mul_add,Nat.mul_add]
 omega
theorem w64 {x : Int} (h : -9223372036854775808 ≤ x) (h' : x ≤ 9223372036854775807) : wrap64 x = x := by unfold wrap64; omega
theorem u64 {x : Int} (h : 0 ≤ x) (h' : x < 18446744073709551616) : IntKind.u64.wrap x = x := by rw [IntKind.wrap_u64]; omega
end Go.Proofs.YtjkcmnedolfkjaaGreat.Num
end
section
set_option linter.unusedVariables false
set_option linter.unusedSimpArgs false
namespace Go.Proofs.YtjkcmnedolfkjaaGreat.Num
open Go.RowKit Go.Proofs.YtjkcmnedolfkjaaGreatW.PrintWords Go.Proofs.YtjkcmnedolfkjaaGreatW.PrintMore Go.Proofs.YtjkcmnedolfkjaaGreat.PL
theorem qSr (l : List Int) (hl : q0i l) (hs : l.length < 70368744177664) (i : Nat) : i ≤ l.length → V (l.take i) = V l → Ev (fun k => q1y.l0 k l (i : Int)) ((len (V l) : Nat) : Int) := by
 induction i with
 | zero =>
  intro _ he
  rw [List.take_zero,q5y] at he
  refine Ev.step (f := fun k => some (0 : Int)) (fun k => by simp only [q1y.l0]; rw [if_neg (by omega)]; rfl) ?_
  rw [← he,q8s]
  exact Ev.now _
 | succ i ih =>
  intro hi he
  have hr := q1d hl (i : Int)
  have hw : wrap64 (((i + 1 : Nat) : Int) - 1) = (i : Int) := by rw [w64 (by omega) (by omega)]; omega
  have hv := q2n l i (by omega)
  by_cases h0 : rd l (i : Int) = 0
  ·refine Ev.step (f := fun k => q1y.l0 k l (i : Int)) (fun k => ?_) (ih (by omega) ?_)
   ·simp only [q1y.l0]
    rw [hw,if_pos (by omega),if_pos (by omega),if_pos (by omega),if_pos h0]
   ·rw [h0] at hv
    simp at hv
    omega
  ·refine Ev.step (f := fun k => some ((i + 1 : Nat) : Int)) (fun k => ?_) ?_
   ·simp only [q1y.l0]
    rw [hw,if_pos (by omega),if_pos (by omega),if_pos (by omega),if_neg h0]
   ·have h1 : len (V l) ≤ i + 1 := q2x.2 (by rw [← he]; have := q9i (hl.take (i + 1)); rwa [List.length_take,Nat.min_eq_left hi] at this)
    have h2 : ¬ len (V l) ≤ i := fun h => by
     have := q2x.1 h
     rw [← he,hv] at this
     have h3 : 4294967296 ^ i * 1 ≤ 4294967296 ^ i * (rd l (i : Int)).toNat := Nat.mul_le_mul_left _ (by omega)
     omega
    rw [show len (V l) = i + 1 from by omega]
    exact Ev.now _
theorem q6i {l : List Int} (hl : q0i l) (hs : l.length < 70368744177664) : Ev (fun k => q1y.f k l) ((len (V l) : Nat) : Int) := by
 refine Ev.congr (fun k => rfl) (qSr l hl hs l.length (Nat.le_refl _) (by rw [List.take_length]))
theorem q2y {l : List Int} (hl : q0i l) (hs : l.length < 70368744177664) : Ev (fun k => q1a.f k l) (N (V l)) := by
 have hle := q7s hl
 refine Ev.bind (q6i hl hs) ?_
 refine Ev.congr (f := fun _ => some (N (V l))) (fun k => ?_) (Ev.now _)
 rw [if_pos (by omega),if_pos (by rw [Int.toNat_natCast]; omega),Int.toNat_natCast,← qTi hl]
 unfold splice
 rw [List.take_zero,List.nil_append,List.length_replicate,Nat.sub_zero,List.drop_eq_nil_of_le (by rw [List.length_replicate]; omega),List.append_nil]
theorem qHb (l : List Int) (i : Nat) : q8k.f l (i : Int) = some (rd l (i : Int)) := by
 unfold q8k.f
 by_cases h : i < l.length
 ·rw [if_pos (by omega),if_pos (by omega)]
 ·rw [if_neg (by omega),q6d l i (by omega)]
def q9a (a b : Nat) : Int := if a < b then -1 else if b < a then 1 else 0
theorem q9m (a b : Int) : q1w.f a b = some (if a < b then -1 else if b < a then 1 else 0) := by
 unfold q1w.f q1p.f
 simp
 split
 ·rfl
 ·split <;> rfl
theorem q9s (a b : Int) : q1i.f a b = some (if a < b then -1 else if b < a then 1 else 0) := by
 unfold q1i.f q1c.f
 simp
 split
 ·rfl
 ·split <;> rfl
theorem qXv (a b : List Int) (ha : q0i a) (hb : q0i b) (hsa : a.length < 1099511627776) (i : Nat) : i ≤ a.length → i ≤ b.length → Ev (fun k => q2p.l0 k a b ((i : Int) - 1)) (q9a (V (a.take i)) (V (b.take i))) := by
 induction i with
 | zero =>
  intro _ _
  refine Ev.step (f := fun k => some (0 : Int)) (fun k => by simp only [q2p.l0]; rw [if_neg (by omega)]) ?_
  rw [List.take_zero,List.take_zero]
  exact Ev.now _
 | succ i ih =>
  intro h1 h2
  have ra := q1d ha (i : Int)
  have rb := q1d hb (i : Int)
  have va := q2n a i (by omega)
  have vb := q2n b i (by omega)
  have la := q9i (ha.take i)
  rw [List.length_take,Nat.min_eq_left (by omega)] at la
  have lb := q9i (hb.take i)
  rw [List.length_take,Nat.min_eq_left (by omega)] at lb
  have hx : ((i + 1 : Nat) : Int) - 1 = (i : Int) := by omega
  rw [hx]
  have key : ∀ x y : Nat,x < y → 4294967296 ^ i * x + 4294967296 ^ i ≤ 4294967296 ^ i * y := fun x y h => by rw [← Nat.mul_succ]; exact Nat.mul_le_mul_left _ h
  rcases Int.lt_trichotomy (rd a (i : Int)) (rd b (i : Int)) with h | h | h
  ·have hk := key (rd a (i : Int)).toNat (rd b (i : Int)).toNat (by omega)
   refine Ev.step (f := fun k => some (-1 : Int)) (fun k => ?_) ?_
   ·simp only [q2p.l0]
    rw [if_pos (by omega),if_pos (by omega),if_pos (by omega),if_pos (by omega),q9s,if_pos h,Option.bind_some,if_neg (by omega)]
   ·unfold q9a
    rw [if_pos (by omega)]
    exact Ev.now _
  ·refine Ev.step (f := fun k => q2p.l0 k a b ((i : Int) - 1)) (fun k => ?_) ?_
   ·simp only [q2p.l0]
    rw [if_pos (by omega),if_pos (by omega),if_pos (by omega),if_pos (by omega),q9s,if_neg (by omega),if_neg (by omega),Option.bind_some,if_pos rfl,w64 (by omega) (by omega)]
   ·have := ih (by omega) (by omega)
    have e : q9a (V (a.take (i + 1))) (V (b.take (i + 1))) = q9a (V (a.take i)) (V (b.take i)) := by
     rw [va,vb,h]
     unfold q9a
     simp only [Nat.add_lt_add_iff_right]
    rw [e]
    exact this
  ·have hk := key (rd b (i : Int)).toNat (rd a (i : Int)).toNat (by omega)
   refine Ev.step (f := fun k => some (1 : Int)) (fun k => ?_) ?_
   ·simp only [q2p.l0]
    rw [if_pos (by omega),if_pos (by omega),if_pos (by omega),if_pos (by omega),q9s,if_neg (by omega),if_pos h,Option.bind_some,if_neg (by omega)]
   ·unfold q9a
    rw [if_neg (by omega),if_pos (by omega)]
    exact Ev.now _
theorem qJe {a b : List Int} (ha : q0i a) (hb : q0i b) (hsa : a.length < 1099511627776) (hsb : b.length < 1099511627776) : Ev (fun k => q2p.f k a b) (q9a (V a) (V b)) := by
 refine Ev.bind (q6i ha (by omega)) (Ev.bind (q6i hb (by omega)) ?_)
 have hla := q7s ha
 have hlb := q7s hb
 have la := q7l (V a)
 have lb := q7l (V b)
 rcases Nat.lt_trichotomy (len (V a)) (len (V b)) with h | h | h
 ·have h1 : V a < V b := Nat.lt_of_not_le fun hc => by have := q2h hc; omega
  refine Ev.congr (f := fun _ => some (q9a (V a) (V b))) (fun k => ?_) (Ev.now _)
  rw [q9m,if_pos (by omega),Option.bind_some,if_neg (by omega)]
  unfold q9a
  rw [if_pos h1]
 ·have := qXv a b ha hb hsa (len (V a)) hla (by omega)
  have ea : V (a.take (len (V a))) = V a := by rw [qBz ha _ hla,Nat.mod_eq_of_lt la]
  have eb : V (b.take (len (V a))) = V b := by rw [h,qBz hb _ hlb,Nat.mod_eq_of_lt lb]
  rw [ea,eb] at this
  refine Ev.congr (fun k => ?_) this
  rw [q9m,if_neg (by omega),if_neg (by omega),Option.bind_some,if_pos rfl,w64 (by omega) (by omega)]
 ·have h1 : V b < V a := Nat.lt_of_not_le fun hc => by have := q2h hc; omega
  refine Ev.congr (f := fun _ => some (q9a (V a) (V b))) (fun k => ?_) (Ev.now _)
  rw [q9m,if_neg (by omega),if_pos (by omega),Option.bind_some,if_neg (by omega)]
  unfold q9a
  rw [if_neg (by omega),if_pos h1]
theorem qMm {a b c : Int} (ha : 0 ≤ a ∧ a < 4294967296) (hb : 0 ≤ b ∧ b < 4294967296) (hc : 0 ≤ c ∧ c ≤ 1) : q5s.f a b c = some ((a + b + c) % 4294967296,(a + b + c) / 4294967296) := by
 unfold q5s.f
 rw [u64 (x := a) (by omega) (by omega),u64 (x := b) (by omega) (by omega),u64 (x := c) (by omega) (by omega),u64 (x := a + b) (by omega) (by omega),u64 (by omega) (by omega)]
 congr 2
 omega
theorem qYi (a b : List Int) (ha : q0i a) (hb : q0i b) (n : Nat) (hn : n < 1099511627777) (d : Nat) : ∀ (i : Nat) (out : List Int) (c : Int),i + d = n → out.length = n → q0i out → 0 ≤ c → c ≤ 1 →
  V (out.take i) + 4294967296 ^ i * c.toNat = V (a.take i) + V (b.take i) →
  ∃ out' : List Int,q0i out' ∧ out'.length = n ∧ (∃ c' : Nat,V out' + 4294967296 ^ n * c' = V (a.take n) + V (b.take n)) ∧ Ev (fun k => q3d.l0 k a b out c (n : Int) (i : Int)) (N (V out')) := by
 induction d with
 | zero =>
  intro i out c hi ho hl h0 h1 he
  obtain rfl : i = n := by omega
  refine ⟨out,hl,ho,⟨c.toNat,by rw [← he,List.take_of_length_le (by omega)]⟩,?_⟩
  refine Ev.step (f := fun k => (q1a.f k out).bind fun t => some t) (fun k => by simp only [q3d.l0]; rw [if_neg (by omega)]) (Ev.bind (q2y hl (by omega)) (Ev.now _))
 | succ d ih =>
  intro i out c hi ho hl h0 h1 he
  have ra := q1d ha (i : Int)
  have rb := q1d hb (i : Int)
  have hm : 0 ≤ (rd a (i : Int) + rd b (i : Int) + c) % 4294967296 := by omega
  have hs1 : q0i (out.set i ((rd a (i : Int) + rd b (i : Int) + c) % 4294967296)) := hl.set i (by omega) (by omega)
  have hta : V (a.take (i + 1)) = V (a.take i) + 4294967296 ^ i * (rd a (i : Int)).toNat := by
   by_cases h : i < a.length
   ·exact q2n a i h
   ·rw [q6d a i (by omega),List.take_of_length_le (by omega),List.take_of_length_le (by omega)]; simp
  have htb : V (b.take (i + 1)) = V (b.take i) + 4294967296 ^ i * (rd b (i : Int)).toNat := by
   by_cases h : i < b.length
   ·exact q2n b i h
   ·rw [q6d b i (by omega),List.take_of_length_le (by omega),List.take_of_length_le (by omega)]; simp
  have hto : V ((out.set i ((rd a (i : Int) + rd b (i : Int) + c) % 4294967296)).take (i + 1)) = V (out.take i) + 4294967296 ^ i * ((rd a (i : Int) + rd b (i : Int) + c) % 4294967296).toNat := by
   rw [q2n _ i (by rw [List.length_set]; omega),List.take_set,List.set_eq_of_length_le (l := out.take i) (by rw [List.length_take]; omega)]
   congr 2
   rw [q6z,List.getD_eq_getElem?_getD,List.getElem?_set_self (by omega)]
   rfl
  obtain ⟨out', p1, p2, p3, p4⟩ := ih (i + 1) (out.set i ((rd a (i : Int) + rd b (i : Int) + c) % 4294967296)) ((rd a (i : Int) + rd b (i : Int) + c) / 4294967296) (by omega) (by rw [List.length_set]; exact ho) hs1 (by omega) (by omega) (by
   rw [hto,hta,htb,Nat.pow_succ,Nat.mul_assoc,Nat.add_assoc,← Nat.mul_add]
   have e : ((rd a (i : Int) + rd b (i : Int) + c) % 4294967296).toNat + 4294967296 * ((rd a (i : Int) + rd b (i : Int) + c) / 4294967296).toNat = (rd a (i : Int)).toNat + (rd b (i : Int)).toNat + c.toNat := by omega
   rw [e,Nat.mul_add,Nat.mul_add]
   omega)
  refine ⟨out',p1,p2,p3,Ev.step (fun k => ?_) p4⟩
  simp only [q3d.l0]
  rw [if_pos (by omega),qHb,qHb,Option.bind_some,Option.bind_some,qMm ra rb ⟨h0,h1⟩,Option.bind_some,if_pos (by omega),if_pos (by omega),Int.toNat_natCast,w64 (by omega) (by omega)]
  rfl
theorem qT (a b : Nat) : mx (a : Int) (b : Int) = ((max a b : Nat) : Int) := by
 unfold mx
 split <;> omega
theorem qVu {a b : List Int} (ha : q0i a) (hb : q0i b) (hsa : a.length < 1099511627776) (hsb : b.length < 1099511627776) : Ev (fun k => q3d.f k a b) (N (V a + V b)) := by
 have hla := q7s ha
 have hlb := q7s hb
 have la := q7l (V a)
 have lb := q7l (V b)
 refine Ev.bind (q6i ha (by omega)) (Ev.bind (q6i hb (by omega)) ?_)
 have hn : wrap64 (mx ((len (V a) : Nat) : Int) ((len (V b) : Nat) : Int) + 1) = ((max (len (V a)) (len (V b)) + 1 : Nat) : Int) := by
  rw [qT,w64 (by omega) (by omega)]
  omega
 generalize hN : max (len (V a)) (len (V b)) + 1 = n at hn
 have pa : V (a.take n) = V a := by
  by_cases h : n ≤ a.length
  ·rw [qBz ha n h,Nat.mod_eq_of_lt (Nat.lt_of_lt_of_le la (Nat.pow_le_pow_right (by omega) (by omega)))]
  ·rw [List.take_of_length_le (by omega)]
 have pb : V (b.take n) = V b := by
  by_cases h : n ≤ b.length
  ·rw [qBz hb n h,Nat.mod_eq_of_lt (Nat.lt_of_lt_of_le lb (Nat.pow_le_pow_right (by omega) (by omega)))]
  ·rw [List.take_of_length_le (by omega)]
 obtain ⟨out',p1,p2,⟨c',p3⟩,p4⟩ := qYi a b ha hb n (by omega) n 0 (splice (List.replicate n 0) 0 a) 0 (by omega) (by rw [q4b,List.length_replicate]) ((q0i.rep n).splice ha 0) (by omega) (by omega) (by simp [q5y])
 have hsum : V out' = V a + V b := by
  rw [pa,pb] at p3
  have h1 : V a < 4294967296 ^ (n - 1) := Nat.lt_of_lt_of_le la (Nat.pow_le_pow_right (by omega) (by omega))
  have h2 : V b < 4294967296 ^ (n - 1) := Nat.lt_of_lt_of_le lb (Nat.pow_le_pow_right (by omega) (by omega))
  have h3 : 4294967296 ^ n = 4294967296 ^ (n - 1) * 4294967296 := by obtain ⟨m,rfl⟩ : ∃ m,n = m + 1 := ⟨n - 1,by omega⟩; rw [Nat.add_sub_cancel,Nat.pow_succ]
  rcases Nat.eq_zero_or_pos c' with hz | hz
  ·rw [hz,Nat.mul_zero,Nat.add_zero] at p3
   exact p3
  ·have h4 : 4294967296 ^ n * 1 ≤ 4294967296 ^ n * c' := Nat.mul_le_mul_left _ hz
   generalize 4294967296 ^ n * c' = R at *
   rw [h3] at h4
   generalize 4294967296 ^ (n - 1) = P at *
   omega
 rw [hsum,Int.natCast_zero] at p4
 refine Ev.congr (fun k => ?_) p4
 rw [hn,if_pos (by omega),if_pos (by rw [Int.toNat_natCast]; omega),Int.toNat_natCast,Option.bind_some,List.length_replicate]
theorem q8c {v : Int} (h0 : 0 ≤ v) (h1 : v < 18446744073709551616) : Ev (fun k => q3x.f k v) (N v.toNat) := by
 have hl : q0i [v % 4294967296,v / 4294967296 % 4294967296] := q0i.cons (by omega) (by omega) (q0i.one (by omega) (by omega))
 have := q2y hl (by simp)
 rw [q4f,q4f,q5y,show (v % 4294967296).toNat + 4294967296 * ((v / 4294967296 % 4294967296).toNat + 4294967296 * 0) = v.toNat from by omega] at this
 exact Ev.bind this (Ev.now _)
theorem qYt (x : Nat) (h : x < 4294967296) : x.testBit 31 = decide (2147483648 ≤ x) := by
 rw [Nat.testBit_eq_decide_div_mod_eq,decide_eq_decide]
 omega
theorem div31 (x : Nat) (h : x < 4294967296) : x / 2147483648 = (x.testBit 31).toNat := by
 rw [qYt x h]
 by_cases hx : 2147483648 ≤ x
 ·rw [decide_eq_true hx]; show _ = 1; omega
 ·rw [decide_eq_false hx]; show _ = 0; omega
theorem qRc (a b c d : Nat) (ha : a < 4294967296) (hb : b < 4294967296) (hc : c ≤ 1) (hd : d < 4294967296) (he : (d : Int) = ((a : Int) - b - c) % 4294967296) :
  (((4294967295 ^^^ a) &&& b) ||| ((4294967295 ^^^ (a ^^^ b)) &&& d)) / 2147483648 = if a < b + c then 1 else 0 := by
 have hl : (((4294967295 ^^^ a) &&& b) ||| ((4294967295 ^^^ (a ^^^ b)) &&& d)) < 2 ^ 32 :=
  Nat.or_lt_two_pow (Nat.lt_of_le_of_lt Nat.and_le_right hb) (Nat.lt_of_le_of_lt Nat.and_le_right hd)
 rw [div31 _ hl]
 simp only [Nat.testBit_or,Nat.testBit_and,Nat.testBit_xor,qYt a ha,qYt b hb,qYt d hd,show Nat.testBit 4294967295 31 = true from by decide]
 by_cases h1 : 2147483648 ≤ a <;> by_cases h2 : 2147483648 ≤ b <;> by_cases h3 : 2147483648 ≤ d <;> simp [h1,h2,h3] <;> omega
theorem qLv {a b c : Int} (ha : 0 ≤ a ∧ a < 4294967296) (hb : 0 ≤ b ∧ b < 4294967296) (hc : 0 ≤ c ∧ c ≤ 1) : q5p.f a b c = some ((a - b - c) % 4294967296,if a < b + c then 1 else 0) := by
 obtain ⟨x,rfl⟩ := Int.eq_ofNat_of_zero_le ha.1
 obtain ⟨y,rfl⟩ := Int.eq_ofNat_of_zero_le hb.1
 obtain ⟨z,rfl⟩ := Int.eq_ofNat_of_zero_le hc.1
 have hd : (((x : Int) - y) % 4294967296 - z) % 4294967296 = ((x : Int) - y - z) % 4294967296 := by omega
 obtain ⟨d,hde⟩ := Int.eq_ofNat_of_zero_le (show 0 ≤ ((x : Int) - y - z) % 4294967296 by omega)
 have hdl : d < 4294967296 := by omega
 unfold q5p.f
 rw [hd,hde]
 have e1 : Go.bits .xor .u32 4294967295 (x : Int) = ((4294967295 ^^^ x : Nat) : Int) := u32_xor_nat 4294967295 x (by omega) (by omega)
 have e2 : Go.bits .xor .u32 (x : Int) (y : Int) = ((x ^^^ y : Nat) : Int) := u32_xor_nat x y (by omega) (by omega)
 have l1 : 4294967295 ^^^ x < 4294967296 := Nat.xor_lt_two_pow (n := 32) (by omega) (by omega)
 have l2 : x ^^^ y < 4294967296 := Nat.xor_lt_two_pow (n := 32) (by omega) (by omega)
 have l3 : 4294967295 ^^^ (x ^^^ y) < 4294967296 := Nat.xor_lt_two_pow (n := 32) (by omega) l2
 have e3 : Go.bits .xor .u32 4294967295 ((x ^^^ y : Nat) : Int) = ((4294967295 ^^^ (x ^^^ y) : Nat) : Int) := u32_xor_nat 4294967295 _ (by omega) l2
 have e4 := u32_and_nat (4294967295 ^^^ x) y l1 (by omega)
 have e5 := u32_and_nat (4294967295 ^^^ (x ^^^ y)) d l3 hdl
 have l4 : (4294967295 ^^^ x) &&& y < 4294967296 := Nat.lt_of_le_of_lt Nat.and_le_right (by omega)
 have l5 : (4294967295 ^^^ (x ^^^ y)) &&& d < 4294967296 := Nat.lt_of_le_of_lt Nat.and_le_right hdl
 have e6 := u32_or_nat _ _ l4 l5
 rw [e1,e2,e3,e4,e5,e6]
 have hb := qRc x y z d (by omega) (by omega) (by omega) hdl hde.symm
 congr 2
 rw [show (2147483648 : Int) = ((2147483648 : Nat) : Int) from rfl,← Int.natCast_ediv,hb]
 by_cases h : x < y + z
 ·rw [if_pos h,if_pos (by omega)]; rfl
 ·rw [if_neg h,if_neg (by omega)]; rfl
theorem qXb (a b : List Int) (ha : q0i a) (hb : q0i b) (n : Nat) (hn : n < 1099511627777) (d : Nat) : ∀ (i : Nat) (out : List Int) (c : Int),i + d = n → out.length = n → q0i out → 0 ≤ c → c ≤ 1 → (∀ j : Nat,i ≤ j → j < n → rd out (j : Int) = rd a (j : Int)) →
  (V (out.take i) : Int) - 4294967296 ^ i * c = V (a.take i) - V (b.take i) →
  ∃ out' : List Int,q0i out' ∧ out'.length = n ∧ (∃ c' : Int,0 ≤ c' ∧ c' ≤ 1 ∧ (V out' : Int) - 4294967296 ^ n * c' = V (a.take n) - V (b.take n)) ∧ Ev (fun k => q1s.l0 k b out c (n : Int) (i : Int)) (N (V out'),true) := by
 induction d with
 | zero =>
  intro i out c hi ho hl h0 h1 _ he
  obtain rfl : i = n := by omega
  refine ⟨out,hl,ho,⟨c,h0,h1,by rw [← he,List.take_of_length_le (by omega)]⟩,?_⟩
  refine Ev.step (f := fun k => (q1a.f k out).bind fun t => some (t,true)) (fun k => by simp only [q1s.l0]; rw [if_neg (by omega)]) (Ev.bind (q2y hl (by omega)) (Ev.now _))
 | succ d ih =>
  intro i out c hi ho hl h0 h1 hsame he
  have ra := q1d ha (i : Int)
  have rb := q1d hb (i : Int)
  have ro := hsame i (Nat.le_refl _) (by omega)
  have hs1 : q0i (out.set i ((rd a (i : Int) - rd b (i : Int) - c) % 4294967296)) := hl.set i (by omega) (by omega)
  have hta : V (a.take (i + 1)) = V (a.take i) + 4294967296 ^ i * (rd a (i : Int)).toNat := by
   by_cases h : i < a.length
   ·exact q2n a i h
   ·rw [q6d a i (by omega),List.take_of_length_le (by omega),List.take_of_length_le (by omega)]; simp
  have htb : V (b.take (i + 1)) = V (b.take i) + 4294967296 ^ i * (rd b (i : Int)).toNat := by
   by_cases h : i < b.length
   ·exact q2n b i h
   ·rw [q6d b i (by omega),List.take_of_length_le (by omega),List.take_of_length_le (by omega)]; simp
  have hto : V ((out.set i ((rd a (i : Int) - rd b (i : Int) - c) % 4294967296)).take (i + 1)) = V (out.take i) + 4294967296 ^ i * ((rd a (i : Int) - rd b (i : Int) - c) % 4294967296).toNat := by
   rw [q2n _ i (by rw [List.length_set]; omega),List.take_set,List.set_eq_of_length_le (l := out.take i) (by rw [List.length_take]; omega)]
   congr 2
   rw [q6z,List.getD_eq_getElem?_getD,List.getElem?_set_self (by omega)]
   rfl
  obtain ⟨out',p1,p2,p3,p4⟩ := ih (i + 1) (out.set i ((rd a (i : Int) - rd b (i : Int) - c) % 4294967296)) (if rd a (i : Int) < rd b (i : Int) + c then 1 else 0) (by omega) (by rw [List.length_set]; exact ho) hs1 (by split <;> omega) (by split <;> omega)
   (by
    intro j hj hjn
    rw [← hsame j (by omega) hjn]
    simp only [q6z,List.getD_eq_getElem?_getD]
    rw [List.getElem?_set_ne (by omega)]) (by
   rw [hto,hta,htb,Int.pow_succ]
   have e : (((rd a (i : Int) - rd b (i : Int) - c) % 4294967296).toNat : Int) - 4294967296 * (if rd a (i : Int) < rd b (i : Int) + c then 1 else 0) = ((rd a (i : Int)).toNat : Int) - ((rd b (i : Int)).toNat : Int) - c := by split <;> omega
   simp only [Int.natCast_add,Int.natCast_mul,Int.natCast_pow]
   have e2 := congrArg (fun z : Int => (4294967296 : Int) ^ i * z) e
   simp only [Int.mul_sub,← Int.mul_assoc] at e2
   rw [show ((4294967296 : Nat) : Int) = 4294967296 from rfl]
   generalize (4294967296 : Int) ^ i = P at *
   generalize P * (((rd a (i : Int) - rd b (i : Int) - c) % 4294967296).toNat : Int) = X1 at *
   generalize P * 4294967296 * (if rd a (i : Int) < rd b (i : Int) + c then 1 else 0) = X2 at *
   generalize P * ((rd a (i : Int)).toNat : Int) = X3 at *
   generalize P * ((rd b (i : Int)).toNat : Int) = X4 at *
   generalize P * c = X5 at *
   omega)
  refine ⟨out',p1,p2,p3,Ev.step (fun k => ?_) p4⟩
  simp only [q1s.l0]
  rw [if_pos (by omega),if_pos (by omega),if_pos (by omega),qHb,Option.bind_some,ro,qLv ra rb ⟨h0,h1⟩,Option.bind_some,Int.toNat_natCast,w64 (by omega) (by omega)]
  rfl
theorem qEq {a b : List Int} (ha : q0i a) (hb : q0i b) (hsa : a.length < 1099511627776) (hsb : b.length < 1099511627776) : Ev (fun k => q1s.f k a b) (if V a < V b then ([],false) else (N (V a - V b),true)) := by
 have hla := q7s ha
 have la := q7l (V a)
 refine Ev.bind (qJe ha hb hsa hsb) ?_
 by_cases h : V a < V b
 ·rw [if_pos h]
  refine Ev.congr (f := fun _ => some ([],false)) (fun k => ?_) (Ev.now _)
  rw [if_pos (by unfold q9a; rw [if_pos h]; omega)]
 ·rw [if_neg h]
  have hc : ¬ q9a (V a) (V b) < 0 := by unfold q9a; rw [if_neg h]; split <;> omega
  refine Ev.congr (f := fun k => (q1a.f k a).bind fun t => q1s.l0 k b t 0 (t.length : Int) 0) (fun k => by rw [if_neg hc]) (Ev.bind (q2y ha (by omega)) ?_)
  have nl := q0t (V a)
  obtain ⟨out',p1,p2,⟨c',q0,q1,q2⟩,p4⟩ := qXb (N (V a)) b nl hb (len (V a)) (by omega) (len (V a)) 0 (N (V a)) 0 (by omega) rfl nl (by omega) (by omega) (fun _ _ _ => rfl) (by simp [q5y])
  have hb2 : V (b.take (len (V a))) = V b := by
   by_cases hx : len (V a) ≤ b.length
   ·rw [qBz hb _ hx,Nat.mod_eq_of_lt (Nat.lt_of_le_of_lt (Nat.le_of_not_lt h) la)]
   ·rw [List.take_of_length_le (by omega)]
  rw [hb2,List.take_of_length_le (Nat.le_of_eq (q1e _)),V_N] at q2
  have lo := q9i p1
  rw [p2] at lo
  have hv : V out' = V a - V b := by
   have q3 : c' = 0 ∨ c' = 1 := by omega
   rcases q3 with rfl | rfl
   ·simp at q2; omega
   ·rw [Int.mul_one] at q2
    have : ((4294967296 ^ len (V a) : Nat) : Int) = (4294967296 : Int) ^ len (V a) := by simp
    generalize 4294967296 ^ len (V a) = P at *
    generalize (4294967296 : Int) ^ len (V a) = Q at *
    omega
  rw [hv,Int.natCast_zero] at p4
  exact p4
theorem qRa (l : List Int) (hl : q0i l) (hs : l.length < 35184372088832) (i : Nat) : i ≤ l.length → V (l.take i) = V l → Ev (fun k => q0a.l0 k l (i : Int)) (N (V l)) := by
 induction i with
 | zero =>
  intro _ he
  rw [List.take_zero,q5y] at he
  refine Ev.step (f := fun k => some ([] : List Int)) (fun k => by simp only [q0a.l0]; rw [if_neg (by omega),Option.bind_some,if_pos (by omega),if_pos (by omega)]; simp) ?_
  rw [← he,q5j]
  exact Ev.now _
 | succ i ih =>
  intro hi he
  have hr := q1d hl (i : Int)
  have hw : wrap64 (((i + 1 : Nat) : Int) - 1) = (i : Int) := by rw [w64 (by omega) (by omega)]; omega
  have hv := q2n l i (by omega)
  by_cases h0 : rd l (i : Int) = 0
  ·refine Ev.step (f := fun k => q0a.l0 k l (i : Int)) (fun k => ?_) (ih (by omega) ?_)
   ·simp only [q0a.l0]
    rw [hw,if_pos (by omega),if_pos (by omega),if_pos (by omega),if_pos h0]
   ·rw [h0] at hv
    simp at hv
    omega
  ·have hlen : len (V l) = i + 1 := by
    have h1 : len (V l) ≤ i + 1 := q2x.2 (by rw [← he]; have := q9i (hl.take (i + 1)); rwa [List.length_take,Nat.min_eq_left hi] at this)
    have h2 : ¬ len (V l) ≤ i := fun h => by
     have := q2x.1 h
     rw [← he,hv] at this
     have h3 : 4294967296 ^ i * 1 ≤ 4294967296 ^ i * (rd l (i : Int)).toNat := Nat.mul_le_mul_left _ (by omega)
     generalize 4294967296 ^ i * (rd l (i : Int)).toNat = X at *
     generalize 4294967296 ^ i = P at *
     omega
    omega
   refine Ev.step (f := fun k => some (N (V l))) (fun k => ?_) (Ev.now _)
   simp only [q0a.l0]
   rw [hw,if_pos (by omega),if_pos (by omega),if_pos (by omega),if_neg h0,Option.bind_some,if_pos (by omega),if_pos (by omega),if_pos (by rw [List.length_take]; simp; omega),List.nil_append,Int.toNat_natCast,← hlen,qTi hl]
theorem q2u {l : List Int} (hl : q0i l) (hs : l.length < 35184372088832) : Ev (fun k => q0a.f k l) (N (V l)) :=
 Ev.congr (fun k => rfl) (qRa l hl hs l.length (Nat.le_refl _) (by rw [List.take_length]))
theorem q3t {l : List Int} (hl : q0i l) (i : Nat) : q0m.f l (i : Int) = some (rd l (i : Int)) := by
 have := q1d hl (i : Int)
 unfold q0m.f
 by_cases h : i < l.length
 ·rw [if_neg (by omega),if_pos (by omega),if_pos (by omega),u64 (by omega) (by omega)]
 ·rw [if_pos (by omega),q6d l i (by omega)]
theorem qVn (a b : List Int) (ha : q0i a) (hb : q0i b) (i : Nat) (hi : i < 1099511627777) : Ev (fun k => q0n.l0 k a b ((i : Int) - 1)) (q9a (V (a.take i)) (V (b.take i))) := by
 induction i with
 | zero =>
  refine Ev.step (f := fun k => some (0 : Int)) (fun k => by simp only [q0n.l0]; rw [if_neg (by omega)]) ?_
  rw [List.take_zero,List.take_zero]
  exact Ev.now _
 | succ i ih =>
  have ra := q1d ha (i : Int)
  have rb := q1d hb (i : Int)
  have va : V (a.take (i + 1)) = V (a.take i) + 4294967296 ^ i * (rd a (i : Int)).toNat := by
   by_cases h : i < a.length
   ·exact q2n a i h
   ·rw [q6d a i (by omega),List.take_of_length_le (by omega),List.take_of_length_le (by omega)]; simp
  have vb : V (b.take (i + 1)) = V (b.take i) + 4294967296 ^ i * (rd b (i : Int)).toNat := by
   by_cases h : i < b.length
   ·exact q2n b i h
   ·rw [q6d b i (by omega),List.take_of_length_le (by omega),List.take_of_length_le (by omega)]; simp
  have la : V (a.take i) < 4294967296 ^ i := Nat.lt_of_lt_of_le (q9i (ha.take i)) (Nat.pow_le_pow_right (by omega) (by rw [List.length_take]; omega))
  have lb : V (b.take i) < 4294967296 ^ i := Nat.lt_of_lt_of_le (q9i (hb.take i)) (Nat.pow_le_pow_right (by omega) (by rw [List.length_take]; omega))
  have hx : ((i + 1 : Nat) : Int) - 1 = (i : Int) := by omega
  rw [hx]
  have key : ∀ x y : Nat,x < y → 4294967296 ^ i * x + 4294967296 ^ i ≤ 4294967296 ^ i * y := fun x y h => by rw [← Nat.mul_succ]; exact Nat.mul_le_mul_left _ h
  rcases Int.lt_trichotomy (rd a (i : Int)) (rd b (i : Int)) with h | h | h
  ·have hk := key (rd a (i : Int)).toNat (rd b (i : Int)).toNat (by omega)
   refine Ev.step (f := fun k => some (-1 : Int)) (fun k => ?_) ?_
   ·simp only [q0n.l0]
    rw [if_pos (by omega),q3t ha,q3t hb,Option.bind_some,Option.bind_some,if_pos h]
   ·rw [va,vb]
    unfold q9a
    generalize 4294967296 ^ i * (rd a (i : Int)).toNat = X at *
    generalize 4294967296 ^ i * (rd b (i : Int)).toNat = Y at *
    generalize 4294967296 ^ i = P at *
    rw [if_pos (by omega)]
    exact Ev.now _
  ·refine Ev.step (f := fun k => q0n.l0 k a b ((i : Int) - 1)) (fun k => ?_) ?_
   ·simp only [q0n.l0]
    rw [if_pos (by omega),q3t ha,q3t hb,Option.bind_some,Option.bind_some,if_neg (by omega),Option.bind_some,Option.bind_some,if_neg (by omega),w64 (by omega) (by omega)]
   ·have := ih (by omega)
    have e : q9a (V (a.take (i + 1))) (V (b.take (i + 1))) = q9a (V (a.take i)) (V (b.take i)) := by
     rw [va,vb,h]
     unfold q9a
     simp only [Nat.add_lt_add_iff_right]
    rw [e]
    exact this
  ·have hk := key (rd b (i : Int)).toNat (rd a (i : Int)).toNat (by omega)
   refine Ev.step (f := fun k => some (1 : Int)) (fun k => ?_) ?_
   ·simp only [q0n.l0]
    rw [if_pos (by omega),q3t ha,q3t hb,Option.bind_some,Option.bind_some,if_neg (by omega),Option.bind_some,Option.bind_some,if_pos h]
   ·rw [va,vb]
    unfold q9a
    generalize 4294967296 ^ i * (rd a (i : Int)).toNat = X at *
    generalize 4294967296 ^ i * (rd b (i : Int)).toNat = Y at *
    generalize 4294967296 ^ i = P at *
    rw [if_neg (by omega),if_pos (by omega)]
    exact Ev.now _
theorem qGg {a b : List Int} (ha : q0i a) (hb : q0i b) (hsa : a.length < 1099511627776) (hsb : b.length < 1099511627776) : Ev (fun k => q0n.f k a b) (q9a (V a) (V b)) := by
 have := qVn a b ha hb (max a.length b.length) (by omega)
 rw [List.take_of_length_le (by omega),List.take_of_length_le (by omega)] at this
 refine Ev.congr (fun k => ?_) this
 unfold q0n.f
 rw [qT,w64 (by omega) (by omega)]
structure Hd (p : Prop) : Prop where
 out : p
theorem qEt (l : List Int) (i : Nat) (x : Int) (h : i < l.length) : rd (l.set i x) (i : Int) = x := by
 rw [q6z,List.getD_eq_getElem?_getD,List.getElem?_set_self h]
 rfl
theorem qJs (l : List Int) (i j : Nat) (x : Int) (h : i ≠ j) : rd (l.set i x) (j : Int) = rd l (j : Int) := by
 simp only [q6z,List.getD_eq_getElem?_getD]
 rw [List.getElem?_set_ne h]
theorem qGl (l : List Int) (i : Nat) (x : Int) (h : i < l.length) : V ((l.set i x).take (i + 1)) = V (l.take i) + 4294967296 ^ i * x.toNat := by
 rw [q2n _ i (by rw [List.length_set]; exact h),List.take_set,List.set_eq_of_length_le (l := l.take i) (by rw [List.length_take]; omega),qEt l i x h]
theorem q3f (l : List Int) (i : Nat) : V (l.take (i + 1)) = V (l.take i) + 4294967296 ^ i * (rd l (i : Int)).toNat := by
 by_cases h : i < l.length
 ·exact q2n l i h
 ·rw [q6d l i (by omega),List.take_of_length_le (by omega),List.take_of_length_le (by omega)]; simp
theorem qZf (b : List Int) (hb : q0i b) (a : List Int) (out : List Int) (x : Int) (hx0 : 0 ≤ x) (hx1 : x < 4294967296) (i la : Nat) (hbl : b.length < 1099511627776) (hi : i ≤ out.length) (row0 : List Int) (h0 : row0.length = b.length + 1) (hr0 : q0i row0) (res : List Int)
  (hgo : ∀ row' : List Int,q0i row' → row'.length = b.length + 1 → (∃ c : Nat,V row' + 4294967296 ^ (b.length + 1) * c = V row0 + x.toNat * V b) → Ev (fun k => q1k.l0 k b (splice out i row') a (la : Int) (wrap64 ((i : Int) + 1))) res) (d : Nat) :
  ∀ (j : Nat) (row : List Int) (c : Int),j + d = b.length + 1 → row.length = b.length + 1 → q0i row → 0 ≤ c → c < 4294967296 → (∀ q : Nat,j ≤ q → q < b.length + 1 → rd row (q : Int) = rd row0 (q : Int)) →
  V (row.take j) + 4294967296 ^ j * c.toNat = V (row0.take j) + x.toNat * V (b.take j) →
  Ev (fun k => q1k.l1 k b out (i : Int) x row c a (la : Int) (i : Int) ((b.length + 1 : Nat) : Int) (j : Int)) res := by
 induction d with
 | zero =>
  intro j row c hj hl hr hc0 hc1 _ he
  obtain rfl : j = b.length + 1 := by omega
  rw [List.take_of_length_le (by omega),List.take_of_length_le (by omega),List.take_of_length_le (by omega)] at he
  refine Ev.step (fun k => ?_) (hgo row hr hl ⟨c.toNat,he⟩)
  simp only [q1k.l1]
  rw [if_neg (by omega),if_pos (by omega),if_pos (by omega),Int.toNat_natCast]
 | succ d ih =>
  intro j row c hj hl hr hc0 hc1 hsame he
  have rr := q1d hr0 (j : Int)
  have rb := q1d hb (j : Int)
  have ro := hsame j (Nat.le_refl _) (by omega)
  have hxb0 : 0 ≤ x * rd b (j : Int) := Int.mul_nonneg hx0 rb.1
  have hxb : x * rd b (j : Int) ≤ 4294967295 * 4294967295 := Int.mul_le_mul (by omega) (by omega) rb.1 (by omega)
  have hbt := q3f b j
  have hrt := q3f row0 j
  have pw := Nat.pow_succ (n := 4294967296) (m := j)
  -- the number that this place comes to
  have step : ∀ s : Int,0 ≤ s → s < 18446744073709551616 → s = c + x * rd b (j : Int) + rd row0 (j : Int) →
    Ev (fun k => q1k.l1 k b out (i : Int) x (row.set j (s % 4294967296)) (s / 4294967296) a (la : Int) (i : Int) ((b.length + 1 : Nat) : Int) (wrap64 ((j : Int) + 1))) res := by
   intro s hs0 hs1 hs
   have := ih (j + 1) (row.set j (s % 4294967296)) (s / 4294967296) (by omega) (by rw [List.length_set]; exact hl) (hr.set j (by omega) (by omega)) (by omega) (by omega)
    (fun q hq hqn => by rw [qJs _ _ _ _ (by omega)]; exact hsame q (by omega) hqn)       (by
    rw [qGl row j _ (by omega),hrt,hbt,pw,Nat.mul_assoc,Nat.add_assoc,← Nat.mul_add]
    have e : (s % 4294967296).toNat + 4294967296 * (s / 4294967296).toNat = c.toNat + x.toNat * (rd b (j : Int)).toNat + (rd row0 (j : Int)).toNat := by
     have h1 : ((x.toNat * (rd b (j : Int)).toNat : Nat) : Int) = x * rd b (j : Int) := by rw [Int.natCast_mul,Int.toNat_of_nonneg hx0,Int.toNat_of_nonneg rb.1]
     omega
    rw [e,Nat.mul_add,Nat.mul_add,Nat.mul_add,Nat.mul_left_comm x.toNat]
    omega)
   rw [w64 (by omega) (by omega)]
   exact this
  by_cases hjb : j < b.length
  ·refine Ev.step (fun k => ?_) (step (c + x * rd b (j : Int) + rd row0 (j : Int)) (by omega) (by omega) rfl)
   simp only [q1k.l1]
   rw [if_pos (by omega),if_pos (by omega),if_pos (by omega),if_pos (by omega),ro,Int.toNat_natCast,u64 hx0 (by omega),u64 rb.1 (by omega),u64 hxb0 (by omega),u64 (x := c + x * rd b (j : Int)) (by omega) (by omega),u64 rr.1 (by omega),u64 (by omega) (by omega)]
  ·have hz : rd b (j : Int) = 0 := q6d b j (by omega)
   refine Ev.step (fun k => ?_) (step (c + rd row0 (j : Int)) (by omega) (by omega) (by rw [hz,Int.mul_zero]; omega))
   simp only [q1k.l1]
   rw [if_pos (by omega),if_neg (by omega),if_pos (by omega),if_pos (by omega),ro,Int.toNat_natCast,u64 rr.1 (by omega),u64 (by omega) (by omega)]
theorem qIf {xs ys : List Int} (i : Nat) (h : i + ys.length ≤ xs.length) : V (splice xs i ys) = V (xs.take i) + 4294967296 ^ i * V ys + 4294967296 ^ (i + ys.length) * V (xs.drop (i + ys.length)) := by
 unfold splice
 rw [List.take_of_length_le (l := ys) (by omega),qAj,qAj,List.length_take,Nat.min_eq_left (by omega),Nat.mul_add,Nat.pow_add,Nat.mul_assoc,Nat.add_assoc]
theorem qYl (a b : List Int) (ha : q0i a) (hb : q0i b) (hal : a.length < 1099511627776) (hbl : b.length < 1099511627776) (d : Nat) :
  ∀ (i : Nat) (out : List Int),i + d = a.length → out.length = a.length + b.length → q0i out → V out = V (a.take i) * V b →
  Ev (fun k => q1k.l0 k b out a (a.length : Int) (i : Int)) (N (V a * V b)) := by
 induction d with
 | zero =>
  intro i out hi hl ho he
  obtain rfl : i = a.length := by omega
  rw [List.take_length] at he
  rw [← he]
  exact Ev.step (f := fun k => (q1a.f k out).bind fun t => some t) (fun k => by simp only [q1k.l0]; rw [if_neg (by omega)]) (Ev.bind (q2y ho (by omega)) (Ev.now _))
 | succ d ih =>
  intro i out hi hl ho he
  have ra := q1d ha (i : Int)
  have hVb := q9i hb
  have hVa := q9i (ha.take i)
  rw [List.length_take,Nat.min_eq_left (by omega)] at hVa
  replace hVa := Hd.mk hVa
  replace hVb := Hd.mk hVb
  have hVo : Hd (V out < 4294967296 ^ i * 4294967296 ^ b.length) := by
   refine ⟨?_⟩
   rw [he]
   by_cases hz : V b = 0
   ·rw [hz,Nat.mul_zero]; exact Nat.mul_pos (Nat.pow_pos (by omega)) (Nat.pow_pos (by omega))
   ·exact Nat.mul_lt_mul'' hVa.out hVb.out
  have hdrop : Hd (V (out.drop i) < 4294967296 ^ b.length) := by
   refine ⟨?_⟩
   rw [qPr ho i (by omega)]
   exact Nat.div_lt_of_lt_mul hVo.out
  have hdl : (out.drop i).length = a.length + b.length - i := by rw [List.length_drop,hl]
  have hw : Hd (wrap64 ((b.length : Int) + 1) = ((b.length + 1 : Nat) : Int)) := by refine ⟨?_⟩; rw [w64 (by omega) (by omega)]; rfl
  have hrow0 : splice (List.replicate (b.length + 1) (0 : Int)) 0 (out.drop i) = (out.drop i).take (b.length + 1) := by
   unfold splice
   rw [List.take_zero,List.nil_append,List.length_replicate,Nat.sub_zero,List.drop_replicate,show b.length + 1 - (0 + (out.drop i).length) = 0 from by omega,List.replicate_zero,List.append_nil]
  have hV0 : V ((out.drop i).take (b.length + 1)) = V (out.drop i) := by
   rw [qBz (ho.drop i) _ (by omega),Nat.mod_eq_of_lt (Nat.lt_of_lt_of_le hdrop.out (Nat.pow_le_pow_right (by omega) (by omega)))]
  have hrest : V (out.drop (i + (b.length + 1))) = 0 := by
   rw [qPr ho _ (by omega)]
   apply Nat.div_eq_of_lt
   rw [Nat.pow_add]
   exact Nat.lt_of_lt_of_le hVo.out (Nat.mul_le_mul_left _ (Nat.pow_le_pow_right (by omega) (by omega)))
  have key := qZf b hb a out (rd a (i : Int)) ra.1 ra.2 i a.length hbl (by omega) ((out.drop i).take (b.length + 1)) (by rw [List.length_take]; omega) ((ho.drop i).take _) (N (V a * V b))      (fun row' hr' hl' ⟨c, hc⟩ => by
   rw [hV0] at hc
   have hmul : (rd a (i : Int)).toNat * V b + 4294967296 ^ b.length ≤ 4294967296 ^ (b.length + 1) := by
    rw [Nat.pow_succ,Nat.mul_comm _ 4294967296]
    have h1 : (rd a (i : Int)).toNat * V b ≤ 4294967295 * 4294967296 ^ b.length := Nat.mul_le_mul (by omega) (Nat.le_of_lt hVb.out)
    clear hVo hVa hVb hdrop hrest hc
    generalize 4294967296 ^ b.length = P at *
    omega
   have hc0 : c = 0 := by
    rcases Nat.eq_zero_or_pos c with h | h
    ·exact h
    ·have h1 : 4294967296 ^ (b.length + 1) * 1 ≤ 4294967296 ^ (b.length + 1) * c := Nat.mul_le_mul_left _ h
     have hd := hdrop.out
     clear hVo hVa hVb hdrop hrest
     generalize 4294967296 ^ (b.length + 1) * c = X at *
     generalize 4294967296 ^ (b.length + 1) = Q at *
     generalize 4294967296 ^ b.length = P at *
     omega
   rw [hc0,Nat.mul_zero,Nat.add_zero] at hc
   rw [w64 (by omega) (by omega)]
   refine ih (i + 1) (splice out i row') (by omega) (by rw [q4b,hl]) (ho.splice hr' i) ?_
   rw [qIf i (by omega),hl',hrest,Nat.mul_zero,Nat.add_zero,hc,q3f a i,Nat.add_mul,← he,Nat.mul_add]
   have := q4l out i (by omega)
   rw [this,Nat.mul_assoc]
   omega) (b.length + 1) 0 ((out.drop i).take (b.length + 1)) 0 (by omega) (by rw [List.length_take]; omega) ((ho.drop i).take _) (by omega) (by omega) (fun _ _ _ => rfl) (by simp [q5y])
  refine Ev.step (fun k => ?_) key
  simp only [q1k.l0]
  rw [if_pos (by omega),if_pos (by omega),if_pos (by omega),hw.out,if_pos (by omega),if_pos (by rw [Int.toNat_natCast]; omega),Int.toNat_natCast,Option.bind_some,if_pos (by omega),Int.toNat_natCast,hrow0,List.length_replicate,Int.natCast_zero]
theorem qAd {a b : List Int} (ha : q0i a) (hb : q0i b) (hsa : a.length < 1099511627776) (hsb : b.length < 1099511627776) : Ev (fun k => q1k.f k a b) (N (V a * V b)) := by
 have hla := q7s ha
 have hlb := q7s hb
 refine Ev.bind (q2y ha (by omega)) (Ev.bind (q2y hb (by omega)) ?_)
 have := qYl (N (V a)) (N (V b)) (q0t _) (q0t _) (by rw [q1e]; omega) (by rw [q1e]; omega) (len (V a)) 0 (List.replicate (len (V a) + len (V b)) 0) (by rw [q1e]; omega) (by simp [q1e]) (q0i.rep _) (by rw [qMv,List.take_zero,q5y,Nat.zero_mul])
 rw [V_N,V_N,Int.natCast_zero] at this
 refine Ev.congr (fun k => ?_) this
 have hw : wrap64 (((N (V a)).length : Int) + ((N (V b)).length : Int)) = ((len (V a) + len (V b) : Nat) : Int) := by rw [q1e,q1e,w64 (by omega) (by omega)]; rfl
 rw [hw,if_pos (by omega),if_pos (by rw [Int.toNat_natCast]; omega),Int.toNat_natCast]
theorem q9t {a : List Int} (ha : q0i a) (hsa : a.length < 1099511627776) {v : Int} (h0 : 0 ≤ v) (h1 : v < 4294967296) : Ev (fun k => q3r.f k a v) (N (V a * v.toNat)) := by
 have := qAd ha (q0i.one h0 h1) hsa (by simp)
 rw [show V [v] = v.toNat from by rw [q4f,q5y]; omega] at this
 exact Ev.bind this (Ev.now _)
theorem qRp (r : Nat) (h : r < 32) : shl .u32 1 (r : Int) = ((2 ^ r : Nat) : Int) := by
 unfold shl
 have h2 : 2 ^ r < 2 ^ 32 := Nat.pow_lt_pow_right (by omega) h
 rw [Int.toNat_natCast,show IntKind.u32.bits = 32 from rfl,Nat.min_eq_left (by omega),IntKind.wrap_u32,Int.one_mul]
 have : ((2 : Int) ^ r) = ((2 ^ r : Nat) : Int) := by simp
 rw [this]
 generalize 2 ^ r = P at *
 omega
theorem qCa (n : Nat) : Int.tdiv (n : Int) 32 = ((n / 32 : Nat) : Int) := by
 rw [Int.tdiv_eq_ediv_of_nonneg (by omega)]
 rfl
theorem qBu (n : Nat) : Int.tmod (n : Int) 32 = ((n % 32 : Nat) : Int) := by
 rw [Int.tmod_eq_emod_of_nonneg (by omega)]
 rfl
theorem q5x (n : Nat) : 2 ^ n = 4294967296 ^ (n / 32) * 2 ^ (n % 32) := by
 rw [show (4294967296 : Nat) = 2 ^ 32 from rfl,← Nat.pow_mul,← Nat.pow_add,Nat.div_add_mod]
theorem qYm {a : List Int} (ha : q0i a) (hsa : a.length < 549755813888) {n : Nat} (hn : n < 1099511627776) : Ev (fun k => qCw.f k a (n : Int)) (N (V a * 2 ^ n)) := by
 have hw0 : wrap64 (Int.tdiv (n : Int) 32) = ((n / 32 : Nat) : Int) := by rw [qCa,w64 (by omega) (by omega)]
 have hw1 : wrap64 (wrap64 (((n / 32 : Nat) : Int) + (a.length : Int)) + 1) = ((n / 32 + a.length + 1 : Nat) : Int) := by
  rw [w64 (x := ((n / 32 : Nat) : Int) + (a.length : Int)) (by omega) (by omega),w64 (by omega) (by omega)]
  omega
 have hsp : q0i (splice (List.replicate (n / 32 + a.length + 1) 0) (n / 32) a) := (q0i.rep _).splice ha _
 have hv : V (splice (List.replicate (n / 32 + a.length + 1) 0) (n / 32) a) = 4294967296 ^ (n / 32) * V a := by
  rw [qIf _ (by rw [List.length_replicate]; omega),List.take_replicate,qMv,List.drop_replicate,qMv]
  omega
 have := q9t hsp (by rw [q4b, List.length_replicate]; omega) (v := ((2 ^ (n % 32) : Nat) : Int)) (Int.natCast_nonneg _)                   (by
  have h2 : 2 ^ (n % 32) < 2 ^ 32 := Nat.pow_lt_pow_right (by omega) (by omega)
  generalize 2 ^ (n % 32) = P at *
  omega)
 rw [hv,Int.toNat_natCast,show 4294967296 ^ (n / 32) * V a * 2 ^ (n % 32) = V a * 2 ^ n from by rw [q5x n,Nat.mul_comm (4294967296 ^ (n / 32)) (V a),Nat.mul_assoc]] at this
 refine Ev.congr (fun k => ?_) (Ev.bind this (Ev.now _))
 unfold qCw.f
 rw [hw0,hw1,if_pos (by omega),if_pos (by rw [Int.toNat_natCast]; omega),Int.toNat_natCast,Option.bind_some,List.length_replicate,if_pos (by omega),if_pos (by omega),qBu,if_pos (by omega),Int.toNat_natCast,qRp _ (by omega)]
theorem qCi (k : IntKind) (x : Int) (r : Nat) (h : r ≤ k.bits) : shr k x (r : Int) = x / ((2 ^ r : Nat) : Int) := by
 unfold shr
 rw [Int.toNat_natCast,Nat.min_eq_left h]
 simp
theorem qOw (hi lo : Nat) (h1 : hi < 4294967296) (h2 : lo < 4294967296) : Go.bits .or .u64 ((hi : Int) * 4294967296) (lo : Int) = ((hi * 4294967296 + lo : Nat) : Int) := by
 have := u64_or_nat (hi * 4294967296) lo (by omega) (by omega)
 rw [show ((hi * 4294967296 : Nat) : Int) = (hi : Int) * 4294967296 from by omega] at this
 rw [this,nat_join 32 _ _ (by omega) (by omega)]
theorem qWe (T r i : Nat) (hr : r < 32) : T / 2 ^ r / 4294967296 ^ i % 4294967296 = ((T / 4294967296 ^ (i + 1) % 4294967296) * 4294967296 + T / 4294967296 ^ i % 4294967296) / 2 ^ r % 4294967296 := by
 rw [Nat.div_div_eq_div_mul T (2 ^ r),Nat.mul_comm (2 ^ r),← Nat.div_div_eq_div_mul T,Nat.pow_succ,← Nat.div_div_eq_div_mul T (4294967296 ^ i)]
 generalize T / 4294967296 ^ i = X
 obtain ⟨Y,hY⟩ : ∃ Y,Y = (X / 4294967296 % 4294967296) * 4294967296 + X % 4294967296 := ⟨_,rfl⟩
 obtain ⟨Z,hZ⟩ : ∃ Z,Z = X / 4294967296 / 4294967296 := ⟨_,rfl⟩
 have e : X = Z * 4294967296 * 4294967296 + Y := by omega
 rw [← hY,e]
 clear e hY hZ
 obtain ⟨p,hp⟩ : ∃ p,p = 2 ^ r := ⟨_,rfl⟩
 obtain ⟨q,hq⟩ : ∃ q,q = 2 ^ (32 - r) := ⟨_,rfl⟩
 have hpq : p * q = 4294967296 := by rw [hp,hq,← Nat.pow_add,show r + (32 - r) = 32 from by omega]
 have hp0 : 0 < p := by rw [hp]; exact Nat.pow_pos (by omega)
 rw [← hp]
 clear hp hq
 have e2 : Z * 4294967296 * 4294967296 = p * (Z * q * 4294967296) := by
  rw [← hpq]
  simp only [Nat.mul_comm,Nat.mul_left_comm]
 rw [e2,Nat.mul_add_div hp0,Nat.add_comm,Nat.add_mul_mod_self_right]
theorem j1f {l : List Int} (hl : q0i l) (i : Nat) : (rd l (i : Int)).toNat = V l / 4294967296 ^ i % 4294967296 := by
 by_cases h : i < l.length
 ·have h1 := qPr hl i (by omega)
  rw [q4k l i h,q4f] at h1
  have := q1d hl (i : Int)
  rw [← h1,Nat.add_mul_mod_self_left,Nat.mod_eq_of_lt (by omega)]
 ·rw [q6d l i (by omega),Nat.div_eq_of_lt (Nat.lt_of_lt_of_le (q9i hl) (Nat.pow_le_pow_right (by omega) (by omega)))]
  rfl
theorem qGj (X i : Nat) : X % 4294967296 ^ (i + 1) = X % 4294967296 ^ i + 4294967296 ^ i * (X / 4294967296 ^ i % 4294967296) := by
 rw [Nat.pow_succ,Nat.mod_mul]
theorem qSg (t : List Int) (ht : q0i t) (n r : Nat) (hr : r < 32) (htm : Int.tmod (n : Int) 32 = (r : Int)) (hs : t.length < 1099511627776) (d : Nat) :
  ∀ (i : Nat) (out : List Int),i + d = t.length → out.length = t.length → q0i out → (∀ q : Nat,i ≤ q → q < t.length → rd out (q : Int) = rd t (q : Int)) → Hd (V (out.take i) = (V t / 2 ^ r) % 4294967296 ^ i) →
  Ev (fun k => q2v.l0 k (n : Int) out (t.length : Int) (i : Int)) (N (V t / 2 ^ r)) := by
 induction d with
 | zero =>
  intro i out hi hl ho _ he
  obtain rfl : i = t.length := by omega
  replace he := he.out
  rw [List.take_of_length_le (by omega),Nat.mod_eq_of_lt (Nat.lt_of_le_of_lt (Nat.div_le_self _ _) (q9i ht))] at he
  rw [← he]
  exact Ev.step (f := fun k => (q1a.f k out).bind fun t => some t) (fun k => by simp only [q2v.l0]; rw [if_neg (by omega)]) (Ev.bind (q2y ho (by omega)) (Ev.now _))
 | succ d ih =>
  intro i out hi hl ho hsame he
  have rt := q1d ht (i : Int)
  have rt1 := q1d ht ((i + 1 : Nat) : Int)
  have ro := hsame i (Nat.le_refl _) (by omega)
  have hw : wrap64 ((i : Int) + 1) = ((i + 1 : Nat) : Int) := by rw [w64 (by omega) (by omega)]; rfl
  obtain ⟨lo,hlo⟩ := Int.eq_ofNat_of_zero_le rt.1
  obtain ⟨hg,hhg⟩ := Int.eq_ofNat_of_zero_le rt1.1
  have hd : Hd (V t / 2 ^ r / 4294967296 ^ i % 4294967296 = (hg * 4294967296 + lo) / 2 ^ r % 4294967296) := by
   refine ⟨?_⟩
   rw [qWe _ _ _ hr,← j1f ht,← j1f ht,hlo,hhg]
   rfl
  have next : ∀ x : Int,x = (((hg * 4294967296 + lo) / 2 ^ r % 4294967296 : Nat) : Int) → Ev (fun k => q2v.l0 k (n : Int) (out.set i x) (t.length : Int) ((i + 1 : Nat) : Int)) (N (V t / 2 ^ r)) := by
   rintro x rfl
   refine ih (i + 1) _ (by omega) (by rw [List.length_set]; exact hl) (ho.set i (by omega) (by omega)) (fun q hq hqn => by rw [qJs _ _ _ _ (by omega)]; exact hsame q (by omega) hqn) ⟨?_⟩
   rw [qGl out i _ (by omega),he.out,qGj,hd.out,Int.toNat_natCast]
  have hsh : ∀ m : Nat,shr .u64 (m : Int) (r : Int) % 4294967296 = ((m / 2 ^ r % 4294967296 : Nat) : Int) := by
   intro m
   rw [qCi .u64 _ r (by show r ≤ 64; omega)]
   simp
  by_cases h1 : i + 1 < t.length
  ·have ro1 := hsame (i + 1) (by omega) h1
   refine Ev.step (fun k => ?_) (next _ rfl)
   simp only [q2v.l0]
   rw [if_pos (by omega),hw,if_pos (by omega),if_pos (by omega),if_pos (by omega),if_pos (by omega),htm,if_pos (by omega),Int.toNat_natCast,ro,ro1,hlo,hhg,u64 (x := ((hg : Nat) : Int)) (by omega) (by omega),u64 (x := ((lo : Nat) : Int)) (by omega) (by omega),u64 (x := ((hg : Nat) : Int) * 4294967296) (by omega) (by omega),qOw hg lo (by omega) (by omega),hsh]
  ·have hz : hg = 0 := by have := q6d t (i + 1) (by omega); omega
   refine Ev.step (fun k => ?_) (next _ rfl)
   simp only [q2v.l0]
   have hor := qOw 0 lo (by omega) (by omega)
   rw [show ((0 : Nat) : Int) * 4294967296 = 0 from rfl] at hor
   rw [if_pos (by omega),hw,if_neg (by omega),if_pos (by omega),if_pos (by omega),htm,if_pos (by omega),Int.toNat_natCast,ro,hlo,u64 (x := ((lo : Nat) : Int)) (by omega) (by omega),hor,hsh,hz]
theorem qR {a : List Int} (ha : q0i a) (hsa : a.length < 1099511627776) {n : Nat} (hn : n < 1099511627776) : Ev (fun k => q2v.f k a (n : Int)) (N (V a / 2 ^ n)) := by
 have hw0 : wrap64 (Int.tdiv (n : Int) 32) = ((n / 32 : Nat) : Int) := by rw [qCa,w64 (by omega) (by omega)]
 have hdiv : V a / 2 ^ n = V a / 4294967296 ^ (n / 32) / 2 ^ (n % 32) := by rw [q5x n,Nat.div_div_eq_div_mul]
 by_cases h : n / 32 < a.length
 ·have hd := q2y (ha.drop (n / 32)) (by rw [List.length_drop]; omega)
  rw [qPr ha _ (by omega)] at hd
  have hll : len (V a / 4294967296 ^ (n / 32)) ≤ a.length := Nat.le_trans (q2h (Nat.div_le_self _ _)) (q7s ha)
  have key := qSg (N (V a / 4294967296 ^ (n / 32))) (q0t _) n (n % 32) (by omega) (qBu n) (by rw [q1e]; omega) (len (V a / 4294967296 ^ (n / 32))) 0 (N (V a / 4294967296 ^ (n / 32))) (by rw [q1e]; omega) rfl (q0t _) (fun _ _ _ => rfl) ⟨by simp [q5y,Nat.mod_one]⟩
  rw [V_N,← hdiv,Int.natCast_zero] at key
  refine Ev.congr (fun k => ?_) (Ev.bind (f := fun k t => q2v.l0 k (n : Int) t (t.length : Int) 0) hd key)
  unfold q2v.f
  rw [hw0,if_neg (by omega),if_pos (by omega),if_pos (by omega),Int.toNat_natCast]
 ·have hz : V a / 2 ^ n = 0 := by
   rw [hdiv,Nat.div_eq_of_lt (Nat.lt_of_lt_of_le (q9i ha) (Nat.pow_le_pow_right (by omega) (by omega))),Nat.zero_div]
  rw [hz,q5j]
  refine Ev.congr (fun k => ?_) (Ev.now _)
  unfold q2v.f
  rw [hw0,if_pos (by omega)]
theorem qGx {a : List Int} (ha : q0i a) (hsa : a.length < 549755813888) {n : Nat} (hn : n ≤ 8192) : Ev (fun k => q2t.f k a (n : Int)) (N (V a * 2 ^ n)) := by
 refine Ev.congr (fun k => ?_) (Ev.bind (qYm ha hsa (n := n) (by omega)) (Ev.now _))
 unfold q2t.f
 rw [if_pos (by omega),show mn (n : Int) 8192 = (n : Int) from by unfold mn; split <;> omega]
theorem qQq {a : List Int} (ha : q0i a) (hsa : a.length < 549755813888) {n : Nat} (hn : n ≤ 8192) : Ev (fun k => q2t.f k a (-(n : Int))) (N (V a / 2 ^ n)) := by
 rcases Nat.eq_zero_or_pos n with rfl | h
 ·have := qGx ha hsa (n := 0) (by omega)
  rw [Nat.pow_zero,Nat.mul_one] at this
  rw [Nat.pow_zero,Nat.div_one]
  exact this
 ·refine Ev.congr (fun k => ?_) (Ev.bind (qR ha (by omega) (n := n) (by omega)) (Ev.now _))
  unfold q2t.f
  rw [if_neg (by omega),if_neg (by omega),Int.neg_neg,w64 (by omega) (by omega)]
theorem qPi {a b : List Int} (n : Nat) (hna : a.length ≤ n) (hnb : b.length ≤ n) (hn : n < 17592186044416) (out : List Int) (ho : q0i out) (hl : out.length ≤ n + 1) (he : Hd (V out = V a + V b)) :
  ∀ i : Nat,n ≤ i → i < n + 2 → Ev (fun k => q0f.l0 k a b out 0 (i : Int)) (N (V a + V b)) := by
 intro i h1 h2
 rw [← he.out]
 refine Ev.step (f := fun k => q0f.j1 k a b out 0 (i : Int) false) (fun k => by simp only [q0f.l0]; rw [if_neg (by omega),if_neg (by omega)]; rfl) ?_
 exact Ev.step (f := fun k => (q0a.f k out).bind fun t => some t) (fun k => by simp only [q0f.j1]; rw [if_neg (by simp)]) (Ev.bind (q2u ho (by omega)) (Ev.now _))
theorem qJh (a b : List Int) (ha : q0i a) (hb : q0i b) (out : List Int) (c : Int) (h0 : 0 ≤ c) (h1 : c ≤ 1) (i : Nat) (hi : i < 17592186044417) (ho : out.length = i) (r : List Int) (hgo : i < a.length ∨ i < b.length ∨ 0 < c)
  (h : Ev (fun k => q0f.l0 k a b (out ++ [(rd a (i : Int) + rd b (i : Int) + c) % 4294967296]) ((rd a (i : Int) + rd b (i : Int) + c) / 4294967296) ((i + 1 : Nat) : Int)) r) :
  Ev (fun k => q0f.l0 k a b out c (i : Int)) r := by
 have ra := q1d ha (i : Int)
 have rb := q1d hb (i : Int)
 have hj : Ev (fun k => q0f.j1 k a b out c (i : Int) true) r := by
  refine Ev.step (fun k => ?_) h
  simp only [q0f.j1]
  rw [if_pos trivial,q3t ha,q3t hb,Option.bind_some,Option.bind_some,if_pos (by omega),u64 (x := rd a (i : Int) + rd b (i : Int)) (by omega) (by omega),show c + (rd a (i : Int) + rd b (i : Int)) = rd a (i : Int) + rd b (i : Int) + c from by omega,u64 (by omega) (by omega),w64 (by omega) (by omega)]
  rfl
 refine Ev.step (fun k => ?_) hj
 simp only [q0f.l0]
 by_cases g1 : i < a.length
 ·rw [if_pos (by omega)]
 ·rw [if_neg (by omega)]
  by_cases g2 : i < b.length
  ·rw [if_pos (by omega)]
  ·rw [if_neg (by omega),decide_eq_true (by omega)]
theorem qTs (a b : List Int) (ha : q0i a) (hb : q0i b) (n : Nat) (hna : a.length ≤ n) (hnb : b.length ≤ n) (hmax : n ≤ a.length ∨ n ≤ b.length) (hn : n < 17592186044416) (d : Nat) : ∀ (i : Nat) (out : List Int) (c : Int),i + d = n → out.length = i → q0i out → 0 ≤ c → c ≤ 1 →
  Hd (V out + 4294967296 ^ i * c.toNat = V (a.take i) + V (b.take i)) → Ev (fun k => q0f.l0 k a b out c (i : Int)) (N (V a + V b)) := by
 induction d with
 | zero =>
  intro i out c hi ho hl h0 h1 he
  obtain rfl : i = n := by omega
  replace he := he.out
  rw [List.take_of_length_le hna,List.take_of_length_le hnb] at he
  by_cases hc : c = 0
  ·subst hc
   exact qPi i hna hnb hn out hl (by omega) ⟨by rw [← he]; simp⟩ i (Nat.le_refl _) (by omega)
  ·obtain rfl : c = 1 := by omega
   replace he := Hd.mk he
   refine qJh a b ha hb out 1 (by omega) (by omega) i (by omega) ho _ (.inr (.inr (by omega))) ?_
   rw [q6d a i hna,q6d b i hnb]
   exact qPi i hna hnb hn (out ++ [1]) (hl.app (q0i.one (by omega) (by omega))) (by rw [List.length_append,ho]; simp) ⟨by rw [← he.out,qCc,ho]⟩ (i + 1) (by omega) (by omega)
 | succ d ih =>
  intro i out c hi ho hl h0 h1 he
  have ra := q1d ha (i : Int)
  have rb := q1d hb (i : Int)
  refine qJh a b ha hb out c h0 h1 i (by omega) ho _ (by omega) ?_
  refine ih (i + 1) _ _ (by omega) (by rw [List.length_append,ho]; rfl) (hl.app (q0i.one (by omega) (by omega))) (by omega) (by omega) ⟨?_⟩
  rw [qCc,ho,q3f a i,q3f b i,Nat.pow_succ,Nat.mul_assoc,Nat.add_assoc,← Nat.mul_add]
  have e : ((rd a (i : Int) + rd b (i : Int) + c) % 4294967296).toNat + 4294967296 * ((rd a (i : Int) + rd b (i : Int) + c) / 4294967296).toNat = (rd a (i : Int)).toNat + (rd b (i : Int)).toNat + c.toNat := by clear he; omega
  rw [e,Nat.mul_add,Nat.mul_add]
  have := he.out
  clear he e
  generalize 4294967296 ^ i * c.toNat = X at *
  generalize 4294967296 ^ i * (rd a (i : Int)).toNat = Y at *
  generalize 4294967296 ^ i * (rd b (i : Int)).toNat = Z at *
  omega
theorem qFr {a b : List Int} (ha : q0i a) (hb : q0i b) (hsa : a.length < 17592186044416) (hsb : b.length < 17592186044416) : Ev (fun k => q0f.f k a b) (N (V a + V b)) :=
 Ev.congr (fun k => rfl) (qTs a b ha hb (max a.length b.length) (by omega) (by omega) (by omega) (by omega) (max a.length b.length) 0 [] 0 (by omega) rfl q0i.nil (by omega) (by omega) ⟨by simp [q5y]⟩)
theorem qSc (a b : List Int) (ha : q0i a) (hb : q0i b) (hs : a.length < 17592186044416) (hle : V b ≤ V a) (d : Nat) : ∀ (i : Nat) (out : List Int) (c : Int),i + d = a.length → out.length = i → q0i out → 0 ≤ c → c ≤ 1 →
  Hd ((V out : Int) - 4294967296 ^ i * c = V (a.take i) - V (b.take i)) → Ev (fun k => q0l.l0 k a b out c (i : Int)) (N (V a - V b)) := by
 induction d with
 | zero =>
  intro i out c hi ho hl h0 h1 he
  obtain rfl : i = a.length := by omega
  have hva := q9i ha
  have hb2 : V (b.take a.length) = V b := by
   by_cases hx : a.length ≤ b.length
   ·rw [qBz hb _ hx,Nat.mod_eq_of_lt (Nat.lt_of_le_of_lt hle hva)]
   ·rw [List.take_of_length_le (by omega)]
  have h2 := he.out
  rw [hb2,List.take_length] at h2
  have lo := q9i hl
  rw [ho] at lo
  have hv : V out = V a - V b := by
   clear he
   have q3 : c = 0 ∨ c = 1 := by omega
   rcases q3 with rfl | rfl
   ·simp at h2
    clear lo hva
    omega
   ·rw [Int.mul_one] at h2
    have : ((4294967296 ^ a.length : Nat) : Int) = (4294967296 : Int) ^ a.length := by simp
    generalize 4294967296 ^ a.length = P at *
    generalize (4294967296 : Int) ^ a.length = Q at *
    omega
  rw [← hv]
  clear lo hva he h2
  exact Ev.step (f := fun k => (q0a.f k out).bind fun t => some t) (fun k => by simp only [q0l.l0]; rw [if_neg (by omega)]) (Ev.bind (q2u hl (by omega)) (Ev.now _))
 | succ d ih =>
  intro i out c hi ho hl h0 h1 he
  have ra := q1d ha (i : Int)
  have rb := q1d hb (i : Int)
  have key : ∀ (x c' : Int),0 ≤ x → x < 4294967296 → 0 ≤ c' → c' ≤ 1 → x - 4294967296 * c' = rd a (i : Int) - rd b (i : Int) - c → Ev (fun k => q0l.l0 k a b (out ++ [x]) c' ((i + 1 : Nat) : Int)) (N (V a - V b)) := by
   intro x c' x0 x1 c0 c1 hx
   refine ih (i + 1) _ _ (by omega) (by rw [List.length_append,ho]; rfl) (hl.app (q0i.one x0 x1)) c0 c1 ⟨?_⟩
   rw [qCc,ho,q3f a i,q3f b i,Int.pow_succ]
   have e2 := congrArg (fun z : Int => (4294967296 : Int) ^ i * z) hx
   simp only [Int.mul_sub,← Int.mul_assoc] at e2
   simp only [Int.natCast_add,Int.natCast_mul,Int.natCast_pow]
   rw [Int.toNat_of_nonneg x0,Int.toNat_of_nonneg ra.1,Int.toNat_of_nonneg rb.1,show ((4294967296 : Nat) : Int) = 4294967296 from rfl]
   have h2 := he.out
   clear he hx
   generalize (4294967296 : Int) ^ i = P at *
   generalize P * x = X1 at *
   generalize P * 4294967296 * c' = X2 at *
   generalize P * rd a (i : Int) = X3 at *
   generalize P * rd b (i : Int) = X4 at *
   generalize P * c = X5 at *
   omega
  by_cases hlt : rd a (i : Int) < rd b (i : Int) + c
  ·refine Ev.step (fun k => ?_) (key (rd a (i : Int) + 4294967296 - (rd b (i : Int) + c)) 1 (by omega) (by omega) (by omega) (by omega) (by omega))
   simp only [q0l.l0]
   rw [if_pos (by omega),q3t ha,q3t hb,Option.bind_some,Option.bind_some,u64 (x := rd b (i : Int) + c) (by omega) (by omega),if_pos hlt,if_pos (by omega),u64 (x := rd a (i : Int) + 4294967296) (by omega) (by omega),u64 (by omega) (by omega),Int.emod_eq_of_lt (by omega) (by omega),w64 (by omega) (by omega)]
   rfl
  ·refine Ev.step (fun k => ?_) (key (rd a (i : Int) - (rd b (i : Int) + c)) 0 (by omega) (by omega) (by omega) (by omega) (by omega))
   simp only [q0l.l0]
   rw [if_pos (by omega),q3t ha,q3t hb,Option.bind_some,Option.bind_some,u64 (x := rd b (i : Int) + c) (by omega) (by omega),if_neg hlt,if_pos (by omega),u64 (by omega) (by omega),Int.emod_eq_of_lt (by omega) (by omega),w64 (by omega) (by omega)]
   rfl
theorem qFv {a b : List Int} (ha : q0i a) (hb : q0i b) (hsa : a.length < 17592186044416) (hle : V b ≤ V a) : Ev (fun k => q0l.f k a b) (N (V a - V b)) :=
 Ev.congr (fun k => rfl) (qSc a b ha hb hsa hle a.length 0 [] 0 (by omega) rfl q0i.nil (by omega) (by omega) ⟨by simp [q5y]⟩)
theorem qRx {v : Int} (h0 : 0 ≤ v) (h1 : v < 18446744073709551616) : Ev (fun k => q1g.f k v) (N v.toNat) := by
 have hl : q0i [v % 4294967296,v / 4294967296 % 4294967296] := q0i.cons (by omega) (by omega) (q0i.one (by omega) (by omega))
 have := q2u hl (by simp)
 rw [q4f,q4f,q5y,show (v % 4294967296).toNat + 4294967296 * ((v / 4294967296 % 4294967296).toNat + 4294967296 * 0) = v.toNat from by omega] at this
 exact Ev.bind this (Ev.now _)
theorem bit_V {l : List Int} (hl : q0i l) (i : Nat) : (rd l ((i / 32 : Nat) : Int)).toNat / 2 ^ (i % 32) % 2 = V l / 2 ^ i % 2 := by
 rw [j1f hl,q5x i,← Nat.div_div_eq_div_mul]
 generalize V l / 4294967296 ^ (i / 32) = X
 have hr : i % 32 < 32 := Nat.mod_lt _ (by omega)
 generalize i % 32 = r at *
 have hp : 4294967296 = 2 ^ r * (2 * 2 ^ (31 - r)) := by rw [← Nat.pow_succ',← Nat.pow_add,show r + (31 - r).succ = 32 from by omega]
 have e : X = 4294967296 * (X / 4294967296) + X % 4294967296 := (Nat.div_add_mod X 4294967296).symm
 obtain ⟨Y,hY⟩ : ∃ Y,Y = X % 4294967296 := ⟨_,rfl⟩
 obtain ⟨Z,hZ⟩ : ∃ Z,Z = X / 4294967296 := ⟨_,rfl⟩
 rw [← hY,← hZ] at e
 rw [← hY,e,hp,Nat.mul_assoc,Nat.mul_add_div (Nat.pow_pos (by omega)),Nat.mul_assoc,Nat.mul_add_mod]
theorem qWm (x : Nat) (k : IntKind) (hk : k = .u64 ∨ k = .u32) (hx : x < 4294967296) : (Go.bits .and k (x : Int) 1 == 1) = decide (x % 2 = 1) := by
 rcases hk with rfl | rfl
 ·rw [show (1 : Int) = ((1 : Nat) : Int) from rfl,u64_and_nat x 1 (by omega) (by omega),nat_mask1]
  by_cases h : x % 2 = 1
  ·rw [h]; rfl
  ·rw [decide_eq_false h,show x % 2 = 0 from by omega]; rfl
 ·rw [show (1 : Int) = ((1 : Nat) : Int) from rfl,u32_and_nat x 1 (by omega) (by omega),nat_mask1]
  by_cases h : x % 2 = 1
  ·rw [h]; rfl
  ·rw [decide_eq_false h,show x % 2 = 0 from by omega]; rfl
theorem qGe {l : List Int} (hl : q0i l) (i : Nat) (hi : i < 1125899906842624) : q2f.f l (i : Int) = some (decide (V l / 2 ^ i % 2 = 1)) := by
 have hr := q1d hl ((i / 32 : Nat) : Int)
 obtain ⟨x,hx⟩ := Int.eq_ofNat_of_zero_le hr.1
 unfold q2f.f
 rw [if_pos (by omega),qCa,w64 (by omega) (by omega),q3t hl,Option.bind_some,qBu,u64 (x := ((i % 32 : Nat) : Int)) (by omega) (by omega),if_pos (by omega),qCi .u64 _ _ (by show i % 32 ≤ 64; omega),hx,← Int.natCast_ediv,qWm _ _ (.inl rfl) (Nat.lt_of_le_of_lt (Nat.div_le_self _ _) (by omega)),← bit_V hl i,hx]
 rfl
theorem qWv {l : List Int} (hl : q0i l) (i : Nat) (hi : i < 1125899906842624) : q6k.f l (i : Int) = some (decide (V l / 2 ^ i % 2 = 1)) := by
 have hr := q1d hl ((i / 32 : Nat) : Int)
 obtain ⟨x,hx⟩ := Int.eq_ofNat_of_zero_le hr.1
 have hb := bit_V hl i
 unfold q6k.f
 rw [if_pos (by omega),qCa,w64 (by omega) (by omega)]
 by_cases h : i / 32 < l.length
 ·rw [if_pos (by omega),if_pos (by omega),qBu,if_pos (by omega),qCi .u32 _ _ (by show i % 32 ≤ 32; omega),hx,← Int.natCast_ediv,qWm _ _ (.inr rfl) (Nat.lt_of_le_of_lt (Nat.div_le_self _ _) (by omega)),← hb,hx]
  rfl
 ·rw [if_neg (by omega),← hb,q6d l _ (by omega)]
  simp
def nb (n : Nat) : Nat := if n = 0 then 0 else n.log2 + 1
theorem qQf {n k : Nat} : nb n ≤ k ↔ n < 2 ^ k := by
 unfold nb
 split
 ·rename_i h
  subst h
  exact ⟨fun _ => Nat.pow_pos (by omega),fun _ => Nat.zero_le _⟩
 ·rename_i h
  rw [Nat.add_one_le_iff,Nat.log2_lt h]
theorem lt_nb (n : Nat) : n < 2 ^ nb n := qQf.1 (Nat.le_refl _)
theorem qQp (l : List Int) (hl : q0i l) (i : Nat) : i < 1125899906842624 → Hd (V l < 2 ^ i) → Ev (fun k => q0k.l0 k l (i : Int)) ((nb (V l) : Nat) : Int) := by
 induction i with
 | zero =>
  intro _ he
  have h0 : V l = 0 := by have := he.out; simp at this; exact this
  rw [h0]
  exact Ev.step (f := fun k => some (0 : Int)) (fun k => by simp only [q0k.l0]; rw [if_neg (by omega)]; rfl) (Ev.now _)
 | succ i ih =>
  intro hi he
  have hw : Hd (wrap64 (((i + 1 : Nat) : Int) - 1) = (i : Int)) := ⟨by rw [w64 (by omega) (by omega)]; omega⟩
  by_cases h : V l / 2 ^ i % 2 = 1
  ·have : nb (V l) = i + 1 := by
    have h1 : nb (V l) ≤ i + 1 := qQf.2 he.out
    have h2 : ¬ nb (V l) ≤ i := fun h3 => by
     have := qQf.1 h3
     rw [Nat.div_eq_of_lt this] at h
     cases h
    omega
   rw [this]
   refine Ev.step (f := fun k => some ((i + 1 : Nat) : Int)) (fun k => ?_) (Ev.now _)
   simp only [q0k.l0]
   rw [if_pos (by omega),hw.out,qGe hl i (by omega),Option.bind_some,decide_eq_true h,if_pos rfl]
  ·refine Ev.step (fun k => ?_) (ih (by omega) ⟨?_⟩)
   ·simp only [q0k.l0]
    rw [if_pos (by omega),hw.out,qGe hl i (by omega),Option.bind_some,decide_eq_false h,if_neg (by simp)]
   ·have h1 := he.out
    rw [Nat.pow_succ] at h1
    have h2 : V l / 2 ^ i < 2 := (Nat.div_lt_iff_lt_mul (Nat.pow_pos (by omega))).2 (by rwa [Nat.mul_comm] at h1)
    have h3 : V l / 2 ^ i = 0 := by clear he h1; generalize V l / 2 ^ i = X at *; omega
    exact (Nat.div_eq_zero_iff_lt (Nat.pow_pos (by omega))).1 h3
theorem qLq (n : Nat) : 4294967296 ^ n = 2 ^ (32 * n) := by rw [show (4294967296 : Nat) = 2 ^ 32 from rfl,← Nat.pow_mul]
theorem qEk {l : List Int} (hl : q0i l) (hs : l.length < 17592186044416) : Ev (fun k => q0k.f k l) ((nb (V l) : Nat) : Int) := by
 have := qQp l hl (32 * l.length) (by omega) ⟨by rw [← qLq]; exact q9i hl⟩
 refine Ev.congr (fun k => ?_) this
 unfold q0k.f
 rw [w64 (by omega) (by omega)]
 rfl
theorem V_end (out : List Int) (c : Int) (h0 : 0 ≤ c) (h1 : c < 4294967296) : V (out ++ [c % 4294967296]) = V out + 4294967296 ^ out.length * c.toNat := by
 rw [qCc,Int.emod_eq_of_lt h0 h1]
theorem qLp (a : List Int) (ha : q0i a) (v : Int) (v0 : 0 ≤ v) (v1 : v < 4294967296) (hs : a.length < 17592186044416) (d : Nat) : ∀ (i : Nat) (out : List Int) (c : Int),i + d = a.length → out.length = i → q0i out → 0 ≤ c → c < 4294967296 →
  Hd (V out + 4294967296 ^ i * c.toNat = V (a.take i) * v.toNat) → Ev (fun k => q0y.l0 k a v out c (i : Int)) (N (V a * v.toNat)) := by
 induction d with
 | zero =>
  intro i out c hi ho hl h0 h1 he
  obtain rfl : i = a.length := by omega
  have h2 := he.out
  rw [List.take_length,← ho] at h2
  rw [← h2,← V_end out c h0 h1]
  clear h2 he
  refine Ev.step (f := fun k => (q0a.f k (out ++ [c % 4294967296])).bind fun t => some t) (fun k => by simp only [q0y.l0]; rw [if_neg (by omega),if_pos (by omega)]) (Ev.bind (q2u (hl.app (q0i.one (by omega) (by omega))) (by rw [List.length_append]; simp; omega)) (Ev.now _))
 | succ d ih =>
  intro i out c hi ho hl h0 h1 he
  have ra := q1d ha (i : Int)
  have hx0 : 0 ≤ rd a (i : Int) * v := Int.mul_nonneg ra.1 v0
  have hx1 : rd a (i : Int) * v ≤ 4294967295 * 4294967295 := Int.mul_le_mul (by omega) (by omega) v0 (by omega)
  obtain ⟨s,hs⟩ : ∃ s,s = c + rd a (i : Int) * v := ⟨_,rfl⟩
  have key := ih (i + 1) (out ++ [s % 4294967296]) (s / 4294967296) (by omega) (by rw [List.length_append, ho]; rfl) (hl.app (q0i.one (by omega) (by omega))) (by omega) (by omega)   ⟨by
   rw [qCc,ho,q3f a i,Nat.pow_succ,Nat.mul_assoc,Nat.add_assoc,← Nat.mul_add,Nat.add_mul]
   have e : (s % 4294967296).toNat + 4294967296 * (s / 4294967296).toNat = c.toNat + (rd a (i : Int)).toNat * v.toNat := by
    have h1 : (((rd a (i : Int)).toNat * v.toNat : Nat) : Int) = rd a (i : Int) * v := by rw [Int.natCast_mul,Int.toNat_of_nonneg ra.1,Int.toNat_of_nonneg v0]
    clear he
    omega
   rw [e,Nat.mul_add,← he.out]
   simp only [Nat.mul_assoc, Nat.add_assoc]⟩
  refine Ev.step (fun k => ?_) key
  simp only [q0y.l0]
  rw [if_pos (by omega),if_pos (by omega),if_pos (by omega),u64 ra.1 (by omega),u64 v0 (by omega),u64 hx0 (by omega),← hs,u64 (x := s) (by omega) (by omega),w64 (by omega) (by omega)]
  rfl
theorem qJq {a : List Int} (ha : q0i a) (hsa : a.length < 17592186044416) {v : Int} (v0 : 0 ≤ v) (v1 : v < 4294967296) : Ev (fun k => q0y.f k a v) (N (V a * v.toNat)) :=
 Ev.congr (fun k => rfl) (qLp a ha v v0 v1 hsa a.length 0 [] 0 (by omega) rfl q0i.nil (by omega) (by omega) ⟨by simp [q5y]⟩)
theorem or_shl (c x r : Nat) (hr : r < 32) (hc : c < 2 ^ r) (hx : x < 4294967296) : Go.bits .or .u64 (c : Int) (shl .u64 (x : Int) (r : Int)) = ((c + x * 2 ^ r : Nat) : Int) ∧ c + x * 2 ^ r < 18446744073709551616 ∧ (c + x * 2 ^ r) / 4294967296 < 2 ^ r := by
 have hp : 2 ^ r ≤ 2147483648 := by rw [show 2147483648 = 2 ^ 31 from rfl]; exact Nat.pow_le_pow_right (by omega) (by omega)
 have hxr : x * 2 ^ r ≤ 4294967295 * 2 ^ r := Nat.mul_le_mul_right _ (by omega)
 have hm : x * 2 ^ r % 2 ^ r = 0 := Nat.mul_mod_left _ _
 have hsum : (c + x * 2 ^ r) / 4294967296 < 2 ^ r := by
  rw [Nat.div_lt_iff_lt_mul (by omega)]
  clear hm
  generalize x * 2 ^ r = Y at *
  generalize 2 ^ r = P at *
  omega
 have hsh : shl .u64 (x : Int) (r : Int) = ((x * 2 ^ r : Nat) : Int) := by
  unfold shl
  rw [Int.toNat_natCast,show IntKind.u64.bits = 64 from rfl,Nat.min_eq_left (by omega),show (2 : Int) ^ r = ((2 ^ r : Nat) : Int) from by simp,← Int.natCast_mul]
  exact u64 (Int.natCast_nonneg _) (by
   clear hm hsum
   generalize x * 2 ^ r = Y at *
   generalize 2 ^ r = P at *
   omega)
 have h1 := u64_or_nat c (x * 2 ^ r) (by clear hm hsum hsh; generalize x * 2 ^ r = Y at *; generalize 2 ^ r = P at *; omega) (by clear hm hsum hsh; generalize x * 2 ^ r = Y at *; generalize 2 ^ r = P at *; omega)
 refine ⟨?_,by clear hm hsum hsh h1; generalize x * 2 ^ r = Y at *; generalize 2 ^ r = P at *; omega,hsum⟩
 rw [hsh,h1,Nat.or_comm,nat_join r _ _ hm hc,Nat.add_comm]
theorem qXf (a : List Int) (ha : q0i a) (n : Nat) (hn : n < 1099511627776) (hs : a.length < 8796093022208) (d : Nat) : ∀ (i : Nat) (out : List Int) (c : Nat),i + d = a.length → out.length = n / 32 + i → q0i out → Hd (c < 2 ^ (n % 32)) →
  Hd (V out + 4294967296 ^ (n / 32 + i) * c = V (a.take i) * 2 ^ n) → Ev (fun k => q0q.l0 k a (n : Int) out (c : Int) (i : Int)) (N (V a * 2 ^ n)) := by
 have hp : Hd (2 ^ (n % 32) ≤ 2147483648) := ⟨by rw [show 2147483648 = 2 ^ 31 from rfl]; exact Nat.pow_le_pow_right (by omega) (by omega)⟩
 induction d with
 | zero =>
  intro i out c hi ho hl hc he
  obtain rfl : i = a.length := by omega
  have hc1 : c < 4294967296 := Nat.lt_of_lt_of_le hc.out (Nat.le_trans hp.out (by omega))
  have h2 := he.out
  rw [List.take_length,← ho] at h2
  have e := V_end out (c : Int) (by omega) (by omega)
  rw [Int.toNat_natCast,h2] at e
  rw [← e]
  clear h2 he e
  refine Ev.step (f := fun k => (q0a.f k (out ++ [(c : Int) % 4294967296])).bind fun t => some t) (fun k => by simp only [q0q.l0]; rw [if_neg (by omega),if_pos (by omega)]) (Ev.bind (q2u (hl.app (q0i.one (by omega) (by omega))) (by rw [List.length_append]; simp; omega)) (Ev.now _))
 | succ d ih =>
  intro i out c hi ho hl hc he
  have ra := q1d ha (i : Int)
  obtain ⟨x,hx⟩ := Int.eq_ofNat_of_zero_le ra.1
  have hxl : x < 4294967296 := by omega
  obtain ⟨o1,o2,o3⟩ := or_shl c x (n % 32) (by omega) hc.out hxl
  obtain ⟨s,hs⟩ : ∃ s,s = c + x * 2 ^ (n % 32) := ⟨_,rfl⟩
  rw [← hs] at o1 o2 o3
  have o3' := Hd.mk o3
  have key := ih (i + 1) (out ++ [((s % 4294967296 : Nat) : Int)]) (s / 4294967296) (by omega) (by rw [List.length_append, ho]; rfl) (hl.app (q0i.one (by omega) (by omega))) o3'   ⟨by
   rw [qCc,ho,q3f a i,← Nat.add_assoc (n / 32),Nat.pow_succ,Nat.mul_assoc,Nat.add_assoc,← Nat.mul_add,Int.toNat_natCast,Nat.mod_add_div,hs,hx,Int.toNat_natCast,Nat.mul_add,Nat.add_mul,← he.out]
   rw [Nat.pow_add,q5x n]
   simp only [Nat.mul_assoc, Nat.add_assoc, Nat.mul_comm, Nat.mul_left_comm]⟩
  refine Ev.step (fun k => ?_) key
  clear o3 hs he hc
  simp only [q0q.l0]
  rw [if_pos (by omega),if_pos (by omega),qBu,u64 (x := ((n % 32 : Nat) : Int)) (by omega) (by omega),if_pos (by omega),if_pos (by omega),hx,u64 (x := ((x : Nat) : Int)) (by omega) (by omega),o1,w64 (by omega) (by omega)]
  rfl
theorem qKk {a : List Int} (ha : q0i a) (hsa : a.length < 8796093022208) {n : Nat} (hn : n < 1099511627776) : Ev (fun k => q0q.f k a (n : Int)) (N (V a * 2 ^ n)) := by
 have hw0 : Hd (wrap64 (Int.tdiv (n : Int) 32) = ((n / 32 : Nat) : Int)) := ⟨by rw [qCa,w64 (by omega) (by omega)]⟩
 have hw1 : Hd (wrap64 (wrap64 (((n / 32 : Nat) : Int) + (a.length : Int)) + 1) = ((n / 32 + a.length + 1 : Nat) : Int)) := ⟨by
  rw [w64 (x := ((n / 32 : Nat) : Int) + (a.length : Int)) (by omega) (by omega),w64 (by omega) (by omega)]
  omega⟩
 have key := qXf a ha n hn hsa a.length 0 (List.replicate (n / 32) 0) 0 (by omega) (by simp) (q0i.rep _) ⟨Nat.pow_pos (by omega)⟩ ⟨by rw [qMv]; simp [q5y]⟩
 refine Ev.congr (fun k => ?_) key
 unfold q0q.f
 rw [hw0.out,hw1.out,if_pos (by omega),if_pos (by omega),if_pos (by rw [Int.toNat_natCast]; omega),Int.toNat_natCast]
 rfl
theorem qV (a b : List Int) (ha : q0i a) (hb : q0i b) (hsa : a.length < 1073741824) (hsb : b.length < 1073741824) (d : Nat) : ∀ i : Nat,i + d = b.length →
  Ev (fun k => q0g.l0 k a b (N (V a * V (b.take i))) (i : Int)) (N (V a * V b)) := by
 have hbd : ∀ i : Nat, i ≤ b.length → len (V a * V (b.take i)) ≤ a.length + i := fun i hi => q2x.2    (by
  rw [Nat.pow_add]
  have h1 := q9i ha
  have h2 := q9i (hb.take i)
  rw [List.length_take,Nat.min_eq_left hi] at h2
  by_cases hz : V (b.take i) = 0
  ·rw [hz,Nat.mul_zero]; exact Nat.mul_pos (Nat.pow_pos (by omega)) (Nat.pow_pos (by omega))
  ·exact Nat.mul_lt_mul'' h1 h2)
 induction d with
 | zero =>
  intro i hi
  obtain rfl : i = b.length := by omega
  rw [List.take_length]
  have h1 := hbd b.length (Nat.le_refl _)
  rw [List.take_length] at h1
  have := q2u (q0t (V a * V b)) (by rw [q1e]; omega)
  rw [V_N] at this
  exact Ev.step (f := fun k => (q0a.f k (N (V a * V b))).bind fun t => some t) (fun k => by simp only [q0g.l0]; rw [if_neg (by omega)]) (Ev.bind this (Ev.now _))
 | succ d ih =>
  intro i hi
  have rb := q1d hb (i : Int)
  have h1 := hbd i (by omega)
  have hsm : len (V a * (rd b (i : Int)).toNat) ≤ a.length + 1 := q2x.2    (by
   rw [Nat.pow_succ]
   exact Nat.mul_lt_mul'' (q9i ha) (by omega))
  have s1 := qJq ha (by omega) rb.1 rb.2
  have s2 := qKk (q0t (V a * (rd b (i : Int)).toNat)) (by rw [q1e]; omega) (n := 32 * i) (by omega)
  rw [V_N] at s2
  have hup : len (V a * (rd b (i : Int)).toNat * 2 ^ (32 * i)) ≤ a.length + 1 + i := q2x.2    (by
   rw [Nat.pow_add,qLq i]
   have := q2x.1 hsm
   exact Nat.mul_lt_mul_of_pos_right this (Nat.pow_pos (by omega)))
  have s3 := qFr (q0t (V a * V (b.take i))) (q0t (V a * (rd b (i : Int)).toNat * 2 ^ (32 * i))) (by rw [q1e]; omega) (by rw [q1e]; omega)
  rw [V_N,V_N] at s3
  have s4 := ih (i + 1) (by omega)
  rw [q3f b i,Nat.mul_add,qLq i,Nat.mul_comm (2 ^ (32 * i)),← Nat.mul_assoc] at s4
  have e : Ev (fun k => (q0y.f k a (rd b (i : Int))).bind fun t => (q0q.f k t ((32 * i : Nat) : Int)).bind fun u => (q0f.f k (N (V a * V (b.take i))) u).bind fun q => q0g.l0 k a b q ((i + 1 : Nat) : Int)) (N (V a * V b)) :=
   Ev.bind (f := fun k t => (q0q.f k t ((32 * i : Nat) : Int)).bind fun u => (q0f.f k (N (V a * V (b.take i))) u).bind fun q => q0g.l0 k a b q ((i + 1 : Nat) : Int)) s1
    (Ev.bind (f := fun k u => (q0f.f k (N (V a * V (b.take i))) u).bind fun q => q0g.l0 k a b q ((i + 1 : Nat) : Int)) s2
     (Ev.bind (f := fun k q => q0g.l0 k a b q ((i + 1 : Nat) : Int)) s3 s4))
  refine Ev.step (fun k => ?_) e
  clear e s4 s3 s2 s1 hup hsm h1
  simp only [q0g.l0]
  rw [if_pos (by omega),if_pos (by omega),w64 (x := 32 * (i : Int)) (by omega) (by omega),w64 (by omega) (by omega)]
  rfl
theorem qQk {a b : List Int} (ha : q0i a) (hb : q0i b) (hsa : a.length < 1073741824) (hsb : b.length < 1073741824) : Ev (fun k => q0g.f k a b) (N (V a * V b)) := by
 have := qV a b ha hb hsa hsb b.length 0 (by omega)
 rw [List.take_zero,q5y,Nat.mul_zero,q5j] at this
 exact Ev.congr (fun k => rfl) this
theorem qQy (a : List Int) (ha : q0i a) (n : Nat) (hs : a.length < 1099511627776) (hn : n < 1099511627776) (hq : n / 32 ≤ a.length) (d : Nat) : ∀ (j : Nat) (out : List Int),n / 32 + j + d = a.length → out.length = j → q0i out → Hd (V out = V a / 2 ^ n % 4294967296 ^ j) →
  Ev (fun k => q0j.l0 k a (n : Int) out ((n / 32 + j : Nat) : Int)) (N (V a / 2 ^ n)) := by
 have hdiv : V a / 2 ^ n = V a / 4294967296 ^ (n / 32) / 2 ^ (n % 32) := by rw [q5x n,Nat.div_div_eq_div_mul]
 induction d with
 | zero =>
  intro j out hj ho hl he
  have h2 := he.out
  have h1 : V a / 2 ^ n < 4294967296 ^ j := by
   rw [hdiv]
   refine Nat.lt_of_le_of_lt (Nat.div_le_self _ _) (Nat.div_lt_of_lt_mul ?_)
   rw [← Nat.pow_add,show n / 32 + j = a.length from by omega]
   exact q9i ha
  rw [Nat.mod_eq_of_lt h1] at h2
  rw [← h2]
  clear h1 h2 he hdiv
  exact Ev.step (f := fun k => (q0a.f k out).bind fun t => some t) (fun k => by simp only [q0j.l0]; rw [if_neg (by omega)]) (Ev.bind (q2u hl (by omega)) (Ev.now _))
 | succ d ih =>
  intro j out hj ho hl he
  have rt := q1d ha ((n / 32 + j : Nat) : Int)
  have rt1 := q1d ha ((n / 32 + j + 1 : Nat) : Int)
  obtain ⟨lo,hlo⟩ := Int.eq_ofNat_of_zero_le rt.1
  obtain ⟨hg,hhg⟩ := Int.eq_ofNat_of_zero_le rt1.1
  have hw : Hd (wrap64 (((n / 32 + j : Nat) : Int) + 1) = ((n / 32 + j + 1 : Nat) : Int)) := ⟨by rw [w64 (by omega) (by omega)]; rfl⟩
  have hd : Hd (V a / 2 ^ n / 4294967296 ^ j % 4294967296 = (hg * 4294967296 + lo) / 2 ^ (n % 32) % 4294967296) := by
   refine ⟨?_⟩
   rw [hdiv,qWe _ _ _ (Nat.mod_lt _ (by omega)),Nat.div_div_eq_div_mul (V a),← Nat.pow_add,Nat.div_div_eq_div_mul (V a),← Nat.pow_add,← j1f ha,← j1f ha,hlo,show n / 32 + (j + 1) = n / 32 + j + 1 from rfl,hhg]
   rfl
  have next : ∀ x : Int,x = (((hg * 4294967296 + lo) / 2 ^ (n % 32) % 4294967296 : Nat) : Int) → Ev (fun k => q0j.l0 k a (n : Int) (out ++ [x]) ((n / 32 + j + 1 : Nat) : Int)) (N (V a / 2 ^ n)) := by
   rintro x rfl
   refine ih (j + 1) _ (by omega) (by rw [List.length_append,ho]; rfl) (hl.app (q0i.one (by omega) (by omega))) ⟨?_⟩
   rw [qCc,ho,he.out,qGj,hd.out,Int.toNat_natCast]
  have hsh : ∀ m : Nat,shr .u64 (m : Int) ((n % 32 : Nat) : Int) % 4294967296 = ((m / 2 ^ (n % 32) % 4294967296 : Nat) : Int) := by
   intro m
   rw [qCi .u64 _ _ (by show n % 32 ≤ 64; omega)]
   simp
  clear hdiv
  by_cases h1 : n / 32 + j + 1 < a.length
  ·refine Ev.step (fun k => ?_) (next _ rfl)
   simp only [q0j.l0]
   have hor := qOw hg lo (by omega) (by omega)
   have hor2 : Go.bits .or .u64 (lo : Int) ((hg : Int) * 4294967296) = ((hg * 4294967296 + lo : Nat) : Int) := by
    have := u64_or_nat lo (hg * 4294967296) (by omega) (by omega)
    rw [show ((hg * 4294967296 : Nat) : Int) = (hg : Int) * 4294967296 from by omega] at this
    rw [this,Nat.or_comm,nat_join 32 _ _ (by omega) (by omega)]
   rw [if_pos (by omega),if_pos (by omega),hw.out,if_pos (by omega),if_pos (by omega),qBu,u64 (x := ((n % 32 : Nat) : Int)) (by omega) (by omega),if_pos (by omega),if_pos (by omega),hlo,hhg,u64 (x := ((hg : Nat) : Int)) (by omega) (by omega),u64 (x := ((lo : Nat) : Int)) (by omega) (by omega),u64 (x := ((hg : Nat) : Int) * 4294967296) (by omega) (by omega),hor2,hsh]
  ·have hz : hg = 0 := by have := q6d a (n / 32 + j + 1) (by omega); omega
   refine Ev.step (fun k => ?_) (next _ rfl)
   simp only [q0j.l0]
   rw [if_pos (by omega),if_pos (by omega),hw.out,if_neg (by omega),qBu,u64 (x := ((n % 32 : Nat) : Int)) (by omega) (by omega),if_pos (by omega),if_pos (by omega),hlo,u64 (x := ((lo : Nat) : Int)) (by omega) (by omega),hsh,hz,Nat.zero_mul,Nat.zero_add]
theorem qMz {a : List Int} (ha : q0i a) (hsa : a.length < 1099511627776) {n : Nat} (hn : n < 1099511627776) : Ev (fun k => q0j.f k a (n : Int)) (N (V a / 2 ^ n)) := by
 have hw0 : Hd (wrap64 (Int.tdiv (n : Int) 32) = ((n / 32 : Nat) : Int)) := ⟨by rw [qCa,w64 (by omega) (by omega)]⟩
 by_cases h : n / 32 ≤ a.length
 ·have key := qQy a ha n hsa hn h (a.length - n / 32) 0 [] (by omega) rfl q0i.nil ⟨by rw [Nat.pow_zero,Nat.mod_one]; rfl⟩
  refine Ev.congr (fun k => ?_) key
  unfold q0j.f
  rw [hw0.out]
  rfl
 ·have hz : V a / 2 ^ n = 0 := by
   rw [q5x n,← Nat.div_div_eq_div_mul,Nat.div_eq_of_lt (Nat.lt_of_lt_of_le (q9i ha) (Nat.pow_le_pow_right (by omega) (by omega))),Nat.zero_div]
  rw [hz]
  have ht := q2u q0i.nil (by simp)
  rw [q5y] at ht
  refine Ev.congr (f := fun k => q0j.l0 k a (n : Int) [] ((n / 32 : Nat) : Int)) (fun k => by unfold q0j.f; rw [hw0.out]) ?_
  exact Ev.step (f := fun k => (q0a.f k []).bind fun t => some t) (fun k => by simp only [q0j.l0]; rw [if_neg (by omega)]) (Ev.bind ht (Ev.now _))
def T : ByteArray := ⟨#[0,1,2,2,3,3,3,3,4,4,4,4,4,4,4,4,5,5,5,5,5,5,5,5,5,5,5,5,5,5,5,5,6,6,6,6,6,6,6,6,6,6,6,6,6,6,6,6,6,6,6,6,6,6,6,6,6,6,6,6,6,6,6,6,7,7,7,7,7,7,7,7,7,7,7,7,7,7,7,7,7,7,7,7,7,7,7,7,7,7,7,7,7,7,7,7,7,7,7,7,7,7,7,7,7,7,7,7,7,7,7,7,7,7,7,7,7,7,7,7,7,7,7,7,7,7,7,7,8,8,8,8,8,8,8,8,8,8,8,8,8,8,8,8,8,8,8,8,8,8,8,8,8,8,8,8,8,8,8,8,8,8,8,8,8,8,8,8,8,8,8,8,8,8,8,8,8,8,8,8,8,8,8,8,8,8,8,8,8,8,8,8,8,8,8,8,8,8,8,8,8,8,8,8,8,8,8,8,8,8,8,8,8,8,8,8,8,8,8,8,8,8,8,8,8,8,8,8,8,8,8,8,8,8,8,8,8,8,8,8,8,8,8,8,8,8,8,8,8,8,8,8,8,8,8,8]⟩
theorem T_all : (List.range 256).all (fun n => decide (n < 2 ^ (bt T (n : Int)).toNat) && decide ((bt T (n : Int)).toNat ≤ 8)) = true := by decide +kernel
theorem qHz (n : Nat) (h : n < 256) : ∃ r : Nat,bt T (n : Int) = (r : Int) ∧ r ≤ 8 ∧ n < 2 ^ r := by
 have := List.all_eq_true.1 T_all n (List.mem_range.2 h)
 simp only [Bool.and_eq_true,decide_eq_true_eq] at this
 have b := qZj T (n : Int)
 exact ⟨(bt T (n : Int)).toNat,by omega,this.2,this.1⟩
theorem qXz (a0 : Int) : q4d.f a0 = if a0 ≥ 65536 then (if (a0 / 65536) ≥ 256 then (if 0 ≤ (((a0 / 65536) / 256) % 256) then (if (((a0 / 65536) / 256) % 256) < 256 then (some (wrap64 ((16 + 8) + (wrap64 (bt T (((a0 / 65536) / 256) % 256)))))) else (none)) else (none)) else (if 0 ≤ ((a0 / 65536) % 256) then (if ((a0 / 65536) % 256) < 256 then (some (wrap64 (16 + (wrap64 (bt T ((a0 / 65536) % 256)))))) else (none)) else (none))) else (if a0 ≥ 256 then (if 0 ≤ ((a0 / 256) % 256) then (if ((a0 / 256) % 256) < 256 then (some (wrap64 ((0 + 8) + (wrap64 (bt T ((a0 / 256) % 256)))))) else (none)) else (none)) else (if 0 ≤ ((a0) % 256) then (if ((a0) % 256) < 256 then (some (wrap64 (0 + (wrap64 (bt T ((a0) % 256)))))) else (none)) else (none))) := rfl
theorem qDk (x : Nat) (h : x < 4294967296) : ∃ r : Nat,q4d.f (x : Int) = some (r : Int) ∧ r ≤ 32 ∧ x < 2 ^ r := by
 rw [qXz]
 by_cases h1 : 65536 ≤ x
 ·rw [if_pos (by omega)]
  by_cases h2 : 256 ≤ x / 65536
  ·obtain ⟨r,e,h3,h4⟩ := qHz (x / 65536 / 256) (by omega)
   have : ((x : Int) / 65536 / 256) % 256 = ((x / 65536 / 256 : Nat) : Int) := by omega
   rw [if_pos (by omega),if_pos (by omega),if_pos (by omega),this,e,w64 (x := (r : Int)) (by omega) (by omega),w64 (by omega) (by omega)]
   refine ⟨24 + r,by simp,by omega,?_⟩
   rw [Nat.pow_add]
   generalize 2 ^ r = p at *
   omega
  ·obtain ⟨r,e,h3,h4⟩ := qHz (x / 65536) (by omega)
   have : ((x : Int) / 65536) % 256 = ((x / 65536 : Nat) : Int) := by omega
   rw [if_neg (by omega),if_pos (by omega),if_pos (by omega),this,e,w64 (x := (r : Int)) (by omega) (by omega),w64 (by omega) (by omega)]
   refine ⟨16 + r,by simp,by omega,?_⟩
   rw [Nat.pow_add]
   generalize 2 ^ r = p at *
   omega
 ·rw [if_neg (by omega)]
  by_cases h2 : 256 ≤ x
  ·obtain ⟨r,e,h3,h4⟩ := qHz (x / 256) (by omega)
   have : ((x : Int) / 256) % 256 = ((x / 256 : Nat) : Int) := by omega
   rw [if_pos (by omega),if_pos (by omega),if_pos (by omega),this,e,w64 (x := (r : Int)) (by omega) (by omega),w64 (by omega) (by omega)]
   refine ⟨8 + r,by simp,by omega,?_⟩
   rw [Nat.pow_add]
   generalize 2 ^ r = p at *
   omega
  ·obtain ⟨r,e,h3,h4⟩ := qHz x (by omega)
   have : (x : Int) % 256 = (x : Int) := by omega
   rw [if_neg (by omega),if_pos (by omega),if_pos (by omega),this,e,w64 (x := (r : Int)) (by omega) (by omega),w64 (by omega) (by omega)]
   exact ⟨r,by simp,by omega,h4⟩
theorem qLu (x : Nat) (h : x < 4294967296) : ∃ s : Nat,q2c.f (x : Int) = some (s : Int) ∧ s ≤ 32 := by
 obtain ⟨r,e,h1,h2⟩ := qDk x h
 refine ⟨32 - r,?_,by omega⟩
 unfold q2c.f
 rw [e,Option.bind_some,w64 (by omega) (by omega)]
 congr 1
 omega
theorem qSm (top h l rest n Y U B : Nat) (hB : 0 < B) (ht : 0 < top) (hY : top * B ≤ Y) (hU : U = (h * 4294967296 + l) * B + rest) (hr : rest < B) : U / Y ≤ (h * 4294967296 + l) / top := by
 have h1 : U / Y ≤ U / (top * B) := Nat.div_le_div_left hY (Nat.mul_pos ht hB)
 have h2 : U / (top * B) = (h * 4294967296 + l) / top := by
  rw [Nat.mul_comm top B,← Nat.div_div_eq_div_mul,hU,Nat.mul_comm _ B,Nat.mul_add_div hB,Nat.div_eq_of_lt hr,Nat.add_zero]
 omega
theorem qMk {u y : List Int} (hu : q0i u) (hy : q0i y) (n : Nat) (hn : y.length = n + 1) (hs : n < 1099511627776) (hl : u.length = n + 2) (htop : rd y (n : Int) ≠ 0) (hq : V u / V y < 4294967296) :
  ∃ q : Nat,q4y.f u y = some (q : Int) ∧ V u / V y ≤ q ∧ q < 4294967296 := by
 have r0 := q1d hu (n : Int)
 have r1 := q1d hu ((n + 1 : Nat) : Int)
 have rt := q1d hy (n : Int)
 obtain ⟨lo,hlo⟩ := Int.eq_ofNat_of_zero_le r0.1
 obtain ⟨hg,hhg⟩ := Int.eq_ofNat_of_zero_le r1.1
 obtain ⟨tp,htp⟩ := Int.eq_ofNat_of_zero_le rt.1
 have hnum : V u / V y ≤ (hg * 4294967296 + lo) / tp := by
  have e1 := q4l y n (by omega)
  rw [q4k y n (by omega),show y.drop (n + 1) = [] from List.drop_eq_nil_of_le (by omega),q4f,q5y,htp,Int.toNat_natCast,Nat.mul_zero,Nat.add_zero] at e1
  have e2 := q4l u n (by omega)
  rw [q4k u n (by omega),q4k u (n + 1) (by omega),show u.drop (n + 1 + 1) = [] from List.drop_eq_nil_of_le (by omega),q4f,q4f,q5y,hlo,hhg,Int.toNat_natCast,Int.toNat_natCast,Nat.mul_zero,Nat.add_zero] at e2
  have e3 := q9i (hu.take n)
  rw [List.length_take,Nat.min_eq_left (by omega)] at e3
  refine qSm tp hg lo (V (u.take n)) n (V y) (V u) (4294967296 ^ n) (Nat.pow_pos (by omega)) (by omega) ?_ ?_ e3
  ·rw [e1,Nat.mul_comm]; exact Nat.le_add_left _ _
  ·rw [e2,Nat.mul_comm hg,Nat.add_comm (4294967296 * hg),Nat.mul_comm (lo + 4294967296 * hg),Nat.add_comm]
 have hor := qOw hg lo (by omega) (by omega)
 have hdv : Int.tdiv ((hg * 4294967296 + lo : Nat) : Int) (tp : Int) = (((hg * 4294967296 + lo) / tp : Nat) : Int) := by
  rw [Int.tdiv_eq_ediv_of_nonneg (by omega)]; rfl
 have hdle : (hg * 4294967296 + lo) / tp ≤ hg * 4294967296 + lo := Nat.div_le_self _ _
 have hw0 : Hd (wrap64 ((y.length : Int) - 1) = (n : Int)) := ⟨by rw [w64 (by omega) (by omega)]; omega⟩
 have hyl : (y.length : Int) = ((n + 1 : Nat) : Int) := by rw [hn]
 generalize (hg * 4294967296 + lo) / tp = Q at hnum hdle hdv
 generalize V u / V y = D at hnum hq
 refine ⟨min Q 4294967295,?_,?_,?_⟩
 ·unfold q4y.f
  rw [hw0.out, hyl, htp, hlo, hhg, if_pos (by omega), if_pos (by omega), if_pos (by omega), if_pos (by omega), if_pos (by omega), u64 (x := ((tp : Nat) : Int)) (by omega) (by omega), if_neg (by omega),
   u64 (x := ((hg : Nat) : Int)) (by omega) (by omega), u64 (x := ((lo : Nat) : Int)) (by omega) (by omega), u64 (x := ((hg : Nat) : Int) * 4294967296) (by omega) (by omega), hor, hdv, u64 (by omega) (by omega)]
  congr 1
  clear hor hdv hw0 hyl
  unfold mn
  split <;> omega
 ·clear hor hdv hw0 hyl
  omega
 ·clear hor hdv hw0 hyl
  omega
theorem qQo {u y : List Int} (hu : q0i u) (hy : q0i y) (hsu : u.length < 549755813888) (hsy : y.length < 549755813888) (hY : 0 < V y) (d : Nat) : ∀ q : Nat,V u / V y + d = q → q < 4294967296 →
  Ev (fun k => q2k.l0 k u y (q : Int)) (N (V u % V y),((V u / V y : Nat) : Int)) := by
 have hlen : ∀ q : Nat, q < 4294967296 → len (V y * q) ≤ y.length + 1 := fun q hq => q2x.2    (by
  rw [Nat.pow_succ]
  exact Nat.mul_lt_mul'' (q9i hy) hq)
 induction d with
 | zero =>
  intro q hq h1
  have s1 := q9t hy (by omega) (v := (q : Int)) (by omega) (by omega)
  rw [Int.toNat_natCast] at s1
  have h2 := hlen q h1
  have s2 := qEq hu (q0t (V y * q)) (by omega) (by rw [q1e]; omega)
  rw [V_N] at s2
  have h3 : V y * q ≤ V u := by rw [← hq,Nat.add_zero,Nat.mul_comm]; exact Nat.div_mul_le_self _ _
  have h4 : V u - V y * q = V u % V y := by
   have := Nat.div_add_mod (V u) (V y)
   rw [Nat.add_zero] at hq
   rw [hq] at this
   omega
  rw [if_neg (by omega),h4] at s2
  rw [Nat.add_zero] at hq
  rw [hq]
  refine Ev.step (f := fun k => (q3r.f k y (q : Int)).bind fun t => (q1s.f k u t).bind fun bt => if bt.2 = true then some (bt.1,(q : Int)) else q2k.l0 k u y (((q : Int) - 1) % 4294967296)) (fun k => rfl) ?_
  exact Ev.bind (f := fun k t => (q1s.f k u t).bind fun bt => if bt.2 = true then some (bt.1,(q : Int)) else q2k.l0 k u y (((q : Int) - 1) % 4294967296)) s1
   (Ev.bind (f := fun k (bt : List Int × Bool) => if bt.2 = true then some (bt.1,(q : Int)) else q2k.l0 k u y (((q : Int) - 1) % 4294967296)) s2 (Ev.congr (fun k => if_pos rfl) (Ev.now _)))
 | succ d ih =>
  intro q hq h1
  have s1 := q9t hy (by omega) (v := (q : Int)) (by omega) (by omega)
  rw [Int.toNat_natCast] at s1
  have h2 := hlen q h1
  have s2 := qEq hu (q0t (V y * q)) (by omega) (by rw [q1e]; omega)
  rw [V_N] at s2
  have h3 : V u < V y * q := by
   have := Nat.lt_mul_div_succ (V u) hY
   refine Nat.lt_of_lt_of_le this (Nat.mul_le_mul_left _ ?_)
   generalize V u / V y = D at *
   omega
  rw [if_pos h3] at s2
  have hq2 : 0 < q ∧ V u / V y + d = q - 1 := by
   clear s1 s2 ih h3 h2 hlen
   generalize V u / V y = D at *
   omega
  have s3 := ih (q - 1) hq2.2 (by omega)
  refine Ev.step (f := fun k => (q3r.f k y (q : Int)).bind fun t => (q1s.f k u t).bind fun bt => if bt.2 = true then some (bt.1,(q : Int)) else q2k.l0 k u y (((q : Int) - 1) % 4294967296)) (fun k => rfl) ?_
  refine Ev.bind (f := fun k t => (q1s.f k u t).bind fun bt => if bt.2 = true then some (bt.1,(q : Int)) else q2k.l0 k u y (((q : Int) - 1) % 4294967296)) s1
   (Ev.bind (f := fun k (bt : List Int × Bool) => if bt.2 = true then some (bt.1,(q : Int)) else q2k.l0 k u y (((q : Int) - 1) % 4294967296)) s2 (Ev.congr (fun k => ?_) s3))
  rw [if_neg (by simp),show ((q : Int) - 1) % 4294967296 = ((q - 1 : Nat) : Int) from by clear s1 s2 s3 ih h3 h2 hlen; have := hq2.1; clear hq2 hq; omega]
theorem qSx {y : Nat} (hy : y ≠ 0) : ∃ n : Nat,len y = n + 1 ∧ rd (N y) (n : Int) ≠ 0 := by
 have h0 : len y ≠ 0 := fun h => hy (q3m.1 h)
 obtain ⟨n,hn⟩ := Nat.exists_eq_succ_of_ne_zero h0
 refine ⟨n,hn,?_⟩
 have hne : N y ≠ [] := fun h => h0 (by unfold len; rw [h]; rfl)
 have := j0i y hne
 rw [List.getLast_eq_getElem] at this
 have hlen : (N y).length = n + 1 := hn
 rw [q6z,List.getD_eq_getElem?_getD,List.getElem?_eq_getElem (by omega),Option.getD_some]
 have e : (N y).length - 1 = n := by omega
 simp only [e] at this
 exact this
theorem put_V {r : List Int} (hr : q0i r) (n : Nat) (hn : r.length ≤ n + 1) {c : Int} (h0 : 0 ≤ c) (h1 : c < 4294967296) :
  V ((splice (List.replicate (n + 2) (0 : Int)) 1 r).set 0 c) = c.toNat + 4294967296 * V r ∧ ((splice (List.replicate (n + 2) (0 : Int)) 1 r).set 0 c).length = n + 2 ∧ q0i ((splice (List.replicate (n + 2) (0 : Int)) 1 r).set 0 c) := by
 have hl : (splice (List.replicate (n + 2) (0 : Int)) 1 r).length = n + 2 := by rw [q4b,List.length_replicate]
 have hs : q0i (splice (List.replicate (n + 2) (0 : Int)) 1 r) := (q0i.rep _).splice hr 1
 have hv : V (splice (List.replicate (n + 2) (0 : Int)) 1 r) = 4294967296 * V r := by
  rw [qIf 1 (by rw [List.length_replicate]; omega),List.take_replicate,List.drop_replicate,qMv,qMv]
  simp
 refine ⟨?_,by rw [List.length_set,hl],hs.set 0 h0 h1⟩
 have e := V_set (l := splice (List.replicate (n + 2) (0 : Int)) 1 r) 0 c (by omega)
 have e2 := j1f hs 0
 rw [hv,Nat.pow_zero,Nat.div_one,Nat.mul_mod_right] at e2
 rw [e2,hv] at e
 omega
theorem qZu (c X' Y : Nat) (hc : c < 4294967296) (hY : 0 < Y) :
  (c + 4294967296 * (X' % Y)) / Y < 4294967296 ∧ (c + 4294967296 * X') % Y = (c + 4294967296 * (X' % Y)) % Y ∧ (c + 4294967296 * X') / Y = (c + 4294967296 * (X' % Y)) / Y + 4294967296 * (X' / Y) := by
 have h := Nat.mod_lt X' hY
 have e : c + 4294967296 * X' = (c + 4294967296 * (X' % Y)) + Y * (4294967296 * (X' / Y)) := by
  have h2 := Nat.div_add_mod X' Y
  rw [Nat.mul_left_comm]
  generalize Y * (X' / Y) = p at *
  omega
 refine ⟨Nat.div_lt_of_lt_mul ?_,?_,?_⟩
 ·generalize X' % Y = r at *
  clear e
  have : 4294967296 * (r + 1) ≤ 4294967296 * Y := Nat.mul_le_mul_left _ (by omega)
  rw [Nat.mul_comm Y]
  omega
 ·rw [e,Nat.add_mul_mod_self_left]
 ·rw [e,Nat.add_mul_div_left _ _ hY]
theorem qYb (a y : List Int) (s : Nat) (hs : s ≤ 32) (ha : q0i a) (hy : q0i y) (n : Nat) (hn : y.length = n + 1) (hsn : n < 137438953472) (hsa : a.length < 137438953472) (htop : rd y (n : Int) ≠ 0) (hY : 0 < V y) :
  ∀ (i : Nat) (out : List Int),i ≤ a.length → out.length = a.length → q0i out → Hd (V (out.drop i) = V (a.drop i) / V y) →
  Ev (fun k => q2b.l0 k a y out (s : Int) (N (V (a.drop i) % V y)) ((i : Int) - 1)) (N (V a / V y),N (V a % V y / 2 ^ s),true) := by
 intro i
 induction i with
 | zero =>
  intro out hi ho hl he
  have he := he.out
  rw [List.drop_zero,List.drop_zero] at he
  rw [List.drop_zero]
  have hrl : len (V a % V y) ≤ n + 1 := by
   have := q2h (Nat.le_of_lt (Nat.mod_lt (V a) hY))
   have h2 := q7s hy
   omega
  have s1 := q2y hl (by omega)
  rw [he] at s1
  have s2 := qQq (q0t (V a % V y)) (by rw [q1e]; omega) (n := s) (by omega)
  rw [V_N] at s2
  refine Ev.step (f := fun k => (q1a.f k out).bind fun t => (q2t.f k (N (V a % V y)) (-(s : Int))).bind fun u => some (t,u,true)) (fun k => ?_) ?_
  ·simp only [q2b.l0]
   rw [if_neg (by omega),w64 (by omega) (by omega)]
  ·exact Ev.bind (f := fun k t => (q2t.f k (N (V a % V y)) (-(s : Int))).bind fun u => some (t,u,true)) s1 (Ev.bind (f := fun _ u => some (_,u,true)) s2 (Ev.now _))
 | succ i ih =>
  intro out hi ho hl he
  have rc := q1d ha (i : Int)
  have hcut : V (a.drop i) = (rd a (i : Int)).toNat + 4294967296 * V (a.drop (i + 1)) := by rw [q4k a i (by omega),q4f]
  have sn := qZu (rd a (i : Int)).toNat (V (a.drop (i + 1))) (V y) (by omega) hY
  rw [← hcut] at sn
  have hrl : (N (V (a.drop (i + 1)) % V y)).length ≤ n + 1 := by
   rw [q1e]
   have := q2h (Nat.le_of_lt (Nat.mod_lt (V (a.drop (i + 1))) hY))
   have h2 := q7s hy
   omega
  obtain ⟨pv,pl,ph⟩ := put_V (q0t (V (a.drop (i + 1)) % V y)) n hrl rc.1 rc.2
  rw [V_N] at pv
  obtain ⟨q,hq,hq1,hq2⟩ := qMk ph hy n hn (by omega) pl htop (by rw [pv]; exact sn.1)
  obtain ⟨d,hd⟩ := Nat.exists_eq_add_of_le hq1
  have s1 := qQo ph hy (by omega) (by omega) hY d q hd.symm hq2
  rw [pv,← sn.2.1] at s1
  have hQ := sn.1
  have hnext : ∀ Q : Nat,Q = ((rd a (i : Int)).toNat + 4294967296 * (V (a.drop (i + 1)) % V y)) / V y → Ev (fun k => q2b.l0 k a y (out.set i (Q : Int)) (s : Int) (N (V (a.drop i) % V y)) ((i : Int) - 1)) (N (V a / V y),N (V a % V y / 2 ^ s),true) := by
   intro Q hQe
   have hQ2 : Q < 4294967296 := by rw [hQe]; exact hQ
   refine ih (out.set i (Q : Int)) (by omega) (by rw [List.length_set,ho]) (hl.set i (by omega) (by omega)) ⟨?_⟩
   rw [q4k _ i (by rw [List.length_set]; omega),q4f,qEt out i (Q : Int) (by omega),Int.toNat_natCast,List.drop_set_of_lt (by omega),he.out,sn.2.2,hQe]
  have s2 := hnext _ rfl
  generalize ((rd a (i : Int)).toNat + 4294967296 * (V (a.drop (i + 1)) % V y)) / V y = Q at s1 s2
  have hw0 : Hd (wrap64 ((y.length : Int) + 1) = ((n + 2 : Nat) : Int)) := ⟨by rw [w64 (by omega) (by omega)]; omega⟩
  have hw1 : Hd (wrap64 ((i : Int) - 1) = (i : Int) - 1) := ⟨by rw [w64 (by omega) (by omega)]⟩
  refine Ev.step (f := fun k => (q2k.l0 k ((splice (List.replicate (n + 2) (0 : Int)) 1 (N (V (a.drop (i + 1)) % V y))).set 0 (rd a (i : Int))) y (q : Int)).bind fun bt => q2b.l0 k a y (out.set i bt.2) (s : Int) bt.1 ((i : Int) - 1)) (fun k => ?_)
   (Ev.bind (f := fun k (bt : List Int × Int) => q2b.l0 k a y (out.set i bt.2) (s : Int) bt.1 ((i : Int) - 1)) s1 s2)
  clear s1 s2 hnext sn ih he hd hq1 hq2 pv hQ hcut
  simp only [q2b.l0]
  have hi1 : (((i + 1 : Nat) : Int) - 1) = (i : Int) := by omega
  rw [hi1,hw0.out,hw1.out,if_pos (by omega),if_pos (by omega),if_pos (by omega),Option.bind_some,List.length_replicate,Int.toNat_natCast,if_pos (by omega),if_pos (by omega),if_pos (by omega),if_pos (by omega),Option.bind_some]
  have hz : (0 : Int).toNat = 0 := rfl
  rw [hz,hq,Option.bind_some,Int.toNat_natCast,ho]
  simp only [if_pos (show (i : Int) < (a.length : Int) from by omega)]
  rfl
theorem qIy {a b : List Int} (ha : q0i a) (hb : q0i b) (hsa : a.length < 68719476736) (hsb : b.length < 68719476736) :
  Ev (fun k => q2b.f k a b) (if V b = 0 then ([],[],false) else (N (V a / V b),N (V a % V b),true)) := by
 have s1 := q2y hb (by omega)
 by_cases hz : V b = 0
 ·rw [if_pos hz]
  rw [hz,q5j] at s1
  exact Ev.bind s1 (Ev.congr (fun k => by rw [if_pos (by rfl)]) (Ev.now _))
 ·rw [if_neg hz]
  obtain ⟨m,hm,htop⟩ := qSx hz
  have hlb := q7s hb
  have rt := q1d (q0t (V b)) (m : Int)
  obtain ⟨tp,htp⟩ := Int.eq_ofNat_of_zero_le rt.1
  obtain ⟨s,hs,hs1⟩ := qLu tp (by omega)
  have hp : 0 < 2 ^ s := Nat.pow_pos (by omega)
  have hp32 : 2 ^ s ≤ 4294967296 := by rw [show 4294967296 = 2 ^ 32 from rfl]; exact Nat.pow_le_pow_right (by omega) hs1
  have s2 := qGx ha (by omega) (n := s) (by omega)
  have s3 := qGx (q0t (V b)) (by rw [q1e]; omega) (n := s) (by omega)
  rw [V_N] at s3
  have hla : len (V a * 2 ^ s) ≤ a.length + 1 := q2x.2    (by
   rw [Nat.pow_succ]
   exact Nat.lt_of_lt_of_le (Nat.mul_lt_mul_of_pos_right (q9i ha) hp) (Nat.mul_le_mul_left _ hp32))
  have hly : len (V b * 2 ^ s) ≤ b.length + 1 := q2x.2    (by
   rw [Nat.pow_succ]
   exact Nat.lt_of_lt_of_le (Nat.mul_lt_mul_of_pos_right (q9i hb) hp) (Nat.mul_le_mul_left _ hp32))
  have hY : V b * 2 ^ s ≠ 0 := Nat.mul_ne_zero hz (by omega)
  obtain ⟨n,hn,ht⟩ := qSx hY
  have s4 := qYb (N (V a * 2 ^ s)) (N (V b * 2 ^ s)) s hs1 (q0t _) (q0t _) n hn (by omega) (by rw [q1e]; omega) ht (by rw [V_N]; omega) (N (V a * 2 ^ s)).length (List.replicate (N (V a * 2 ^ s)).length 0) (Nat.le_refl _) (by rw [List.length_replicate]) (q0i.rep _)
   ⟨by rw [List.drop_eq_nil_of_le (by rw [List.length_replicate]; omega),List.drop_eq_nil_of_le (by omega),q5y]; simp⟩
  rw [List.drop_eq_nil_of_le (by omega),q5y,Nat.zero_mod,q5j,V_N,V_N,Nat.mul_div_mul_right _ _ hp,Nat.mul_mod_mul_right,Nat.mul_div_cancel _ hp] at s4
  have hlN : (N (V b)).length = m + 1 := hm
  have hw0 : Hd (wrap64 (((m + 1 : Nat) : Int) - 1) = (m : Int)) := ⟨by rw [w64 (by omega) (by omega)]; omega⟩
  have hw1 : Hd (wrap64 (((N (V a * 2 ^ s)).length : Int) - 1) = ((N (V a * 2 ^ s)).length : Int) - 1) := ⟨by rw [q1e,w64 (by omega) (by omega)]⟩
  have hlA : (N (V a * 2 ^ s)).length ≤ 70368744177664 := by rw [q1e]; omega
  refine Ev.bind s1 ?_
  refine Ev.congr (f := fun k => (q2t.f k a (s : Int)).bind fun t218 => (q2t.f k (N (V b)) (s : Int)).bind fun t221 => if 0 ≤ (t218.length : Int) then (if ((t218.length : Int) : Int).toNat ≤ 70368744177664 then q2b.l0 k t218 t221 (List.replicate ((t218.length : Int) : Int).toNat 0) (s : Int) ([] : List Int) (wrap64 ((t218.length : Int) - 1)) else none) else none) (fun k => ?_) ?_
  ·rw [hlN,hw0.out,if_neg (by omega),if_pos (by omega),if_pos (by omega),htp]
   show (q2c.f (tp : Int)).bind _ = _
   rw [hs,Option.bind_some]
  ·refine Ev.bind (f := fun k t218 => (q2t.f k (N (V b)) (s : Int)).bind fun t221 => if 0 ≤ (t218.length : Int) then (if ((t218.length : Int) : Int).toNat ≤ 70368744177664 then q2b.l0 k t218 t221 (List.replicate ((t218.length : Int) : Int).toNat 0) (s : Int) ([] : List Int) (wrap64 ((t218.length : Int) - 1)) else none) else none) s2 ?_
   refine Ev.bind (f := fun k t221 => if 0 ≤ ((N (V a * 2 ^ s)).length : Int) then (if (((N (V a * 2 ^ s)).length : Int) : Int).toNat ≤ 70368744177664 then q2b.l0 k (N (V a * 2 ^ s)) t221 (List.replicate (((N (V a * 2 ^ s)).length : Int) : Int).toNat 0) (s : Int) ([] : List Int) (wrap64 (((N (V a * 2 ^ s)).length : Int) - 1)) else none) else none) s3 ?_
   refine Ev.congr (fun k => ?_) s4
   rw [hw1.out,if_pos (by omega),Int.toNat_natCast,if_pos hlA]
theorem qYu (x y : Nat) (hx : len x < 68719476736) (hy : len y < 68719476736) : Ev (fun k => q2q.l0 k (N x) (N y)) (N (Nat.gcd x y)) := by
 induction y using Nat.strongRecOn generalizing x with
 | ind y ih =>
  by_cases hz : y = 0
  ·subst hz
   rw [Nat.gcd_zero_right]
   refine Ev.step (f := fun _ => some (N x)) (fun k => ?_) (Ev.now _)
   simp only [q2q.l0]
   rw [q5j,if_neg (by simp)]
  ·have hlt : x % y < y := Nat.mod_lt x (by omega)
   have hlm := q2h (Nat.le_of_lt hlt)
   have s1 := qIy (q0t x) (q0t y) (by rw [q1e]; omega) (by rw [q1e]; omega)
   rw [V_N,V_N,if_neg hz] at s1
   have s2 := ih (x % y) hlt y hy (by omega)
   rw [Nat.gcd_comm y,← Nat.gcd_rec,Nat.gcd_comm] at s2
   refine Ev.step (f := fun k => (q2b.f k (N x) (N y)).bind fun bt => q2q.l0 k (N y) bt.2.1) (fun k => ?_) (Ev.bind (f := fun k (bt : List Int × List Int × Bool) => q2q.l0 k (N y) bt.2.1) s1 s2)
   simp only [q2q.l0]
   have : len y ≠ 0 := fun h => hz (q3m.1 h)
   rw [q1e,if_pos (by omega)]
theorem qWc {a b : List Int} (ha : q0i a) (hb : q0i b) (hsa : a.length < 68719476736) (hsb : b.length < 68719476736) : Ev (fun k => q2q.f k a b) (N (Nat.gcd (V a) (V b))) := by
 have := q7s ha
 have := q7s hb
 exact Ev.bind (q2y ha (by omega)) (Ev.bind (q2y hb (by omega)) (qYu _ _ (by omega) (by omega)))
theorem j2n {out : List Int} (hl : q0i out) (i : Nat) (hi : i / 32 < out.length) (Q : Nat) (hv : V out = Q * 2 ^ (i + 1)) :
  ∃ x : Int,Go.bits .or .u32 (rd out ((i / 32 : Nat) : Int)) (shl .u32 1 ((i % 32 : Nat) : Int)) = x ∧ 0 ≤ x ∧ x < 4294967296 ∧ V (out.set (i / 32) x) = (2 * Q + 1) * 2 ^ i := by
 have hr := q1d hl ((i / 32 : Nat) : Int)
 obtain ⟨l,hlx⟩ := Int.eq_ofNat_of_zero_le hr.1
 have hr32 : i % 32 < 32 := Nat.mod_lt _ (by omega)
 have hp : 2 ^ (i % 32) < 4294967296 := by rw [show 4294967296 = 2 ^ 32 from rfl]; exact Nat.pow_lt_pow_right (by omega) hr32
 have hlV := j1f hl (i / 32)
 rw [hlx,Int.toNat_natCast] at hlV
 have hdiv : l % 2 ^ (i % 32 + 1) = 0 := by
  have e : V out / 4294967296 ^ (i / 32) = Q * 2 ^ (i % 32 + 1) := by
   rw [hv,Nat.pow_succ,q5x i,show Q * (4294967296 ^ (i / 32) * 2 ^ (i % 32) * 2) = 4294967296 ^ (i / 32) * (Q * 2 ^ (i % 32 + 1)) from by rw [Nat.pow_succ]; simp [Nat.mul_left_comm,Nat.mul_comm,Nat.mul_assoc],Nat.mul_div_cancel_left _ (Nat.pow_pos (by omega))]
  rw [hlV,e,show 4294967296 = 2 ^ 32 from rfl,Nat.mod_mod_of_dvd _ (Nat.pow_dvd_pow 2 (by omega)),Nat.mul_mod_left]
 have hor := u32_or_nat l (2 ^ (i % 32)) (by omega) hp
 have hlt : l ||| 2 ^ (i % 32) < 2 ^ 32 := Nat.or_lt_two_pow (by omega) hp
 rw [nat_join (i % 32 + 1) _ _ hdiv (Nat.pow_lt_pow_right (by omega) (by omega))] at hor hlt
 refine ⟨((l + 2 ^ (i % 32) : Nat) : Int),?_,by omega,by omega,?_⟩
 ·rw [hlx,qRp _ hr32]; exact hor
 ·have e := V_set (i / 32) ((l + 2 ^ (i % 32) : Nat) : Int) hi
  rw [hlx,Int.toNat_natCast,Int.toNat_natCast,Nat.mul_add,← q5x,hv,Nat.pow_succ] at e
  rw [Nat.add_mul,Nat.one_mul,Nat.mul_comm 2 Q,Nat.mul_assoc,Nat.mul_comm 2]
  generalize 4294967296 ^ (i / 32) * l = z at e
  generalize Q * (2 ^ i * 2) = z2 at e ⊢
  generalize V (out.set (i / 32) _) = z3 at e ⊢
  generalize 2 ^ i = z4 at e ⊢
  omega
theorem qWr (A b M : Nat) (hb : 0 < b) (hM : M < 1099511627776) (hlA : len A < 1099511627776) (hlb : len (b * 2 ^ M) < 1099511627776) :
  ∀ (j : Nat) (out : List Int) (Q r : Nat),j ≤ M + 1 → out.length = M / 32 + 1 → q0i out → Hd (V out = Q * 2 ^ j) → Hd (r < b * 2 ^ j) → Hd (A = Q * (b * 2 ^ j) + r) →
  Ev (fun k => q0d.l0 k (N r) out (N (b * 2 ^ j / 2)) ((j : Int) - 1)) (N (A / b),N (A % b),true) := by
 intro j
 induction j with
 | zero =>
  intro out Q r hj ho hl hv hr hA
  have hv := hv.out
  have hr := hr.out
  have hA := hA.out
  rw [Nat.pow_zero,Nat.mul_one] at hv hr hA
  have hq : A / b = Q := by rw [hA,Nat.mul_comm,Nat.mul_add_div hb,Nat.div_eq_of_lt hr,Nat.add_zero]
  have hm : A % b = r := by rw [hA,Nat.mul_comm,Nat.mul_add_mod,Nat.mod_eq_of_lt hr]
  have s1 := q2u hl (by omega)
  rw [hv] at s1
  rw [hq,hm]
  refine Ev.step (f := fun k => (q0a.f k out).bind fun t => some (t,N r,true)) (fun k => ?_) (Ev.bind (f := fun _ t => some (t,N r,true)) s1 (Ev.now _))
  simp only [q0d.l0]
  rw [if_neg (by omega)]
 | succ j ih =>
  intro out Q r hj ho hl hv hr hA
  have hhalf : b * 2 ^ (j + 1) / 2 = b * 2 ^ j := by rw [Nat.pow_succ,← Nat.mul_assoc,Nat.mul_div_cancel _ (by omega)]
  have h2 : b * 2 ^ (j + 1) = b * 2 ^ j * 2 := by rw [Nat.pow_succ,Nat.mul_assoc]
  have hlx : len (b * 2 ^ j) < 1099511627776 := by
   have : len (b * 2 ^ j) ≤ len (b * 2 ^ M) := q2h (Nat.mul_le_mul_left _ (Nat.pow_le_pow_right (by omega) (by omega)))
   omega
  have hlr : len r ≤ len A := q2h (by rw [hA.out]; exact Nat.le_add_left _ _)
  have s1 := qGg (q0t r) (q0t (b * 2 ^ j)) (by rw [q1e]; omega) (by rw [q1e]; omega)
  rw [V_N,V_N] at s1
  have s2 := qMz (q0t (b * 2 ^ j)) (by rw [q1e]; omega) (n := 1) (by omega)
  rw [V_N,Nat.pow_one] at s2
  have hq32 : j / 32 ≤ M / 32 := Nat.div_le_div_right (by omega)
  have hw0 : Hd (wrap64 ((j : Int) - 1) = (j : Int) - 1) := ⟨by rw [w64 (by omega) (by omega)]⟩
  have hj1 : ((j + 1 : Nat) : Int) - 1 = (j : Int) := by omega
  have hw1 : Hd (wrap64 (Int.tdiv (j : Int) 32) = ((j / 32 : Nat) : Int)) := ⟨by rw [qCa,w64 (by omega) (by omega)]⟩
  have hw2 : Hd (IntKind.u64.wrap (Int.tmod (j : Int) 32) = ((j % 32 : Nat) : Int)) := ⟨by rw [qBu,u64 (by omega) (by omega)]⟩
  rw [hhalf,hj1]
  obtain ⟨x,hx,x0,x1,xv⟩ := j2n hl j (by omega) Q hv.out
  have hstep : ∀ k,q0d.l0 (k + 1) (N r) out (N (b * 2 ^ j)) (j : Int) = (q0n.f k (N r) (N (b * 2 ^ j))).bind fun t => if t ≥ 0 then ((q0l.f k (N r) (N (b * 2 ^ j))).bind fun t414 => (q0j.f k (N (b * 2 ^ j)) ((1 : Nat) : Int)).bind fun t419 => q0d.l0 k t414 (out.set (j / 32) x) t419 ((j : Int) - 1)) else (q0j.f k (N (b * 2 ^ j)) ((1 : Nat) : Int)).bind fun t419 => q0d.l0 k (N r) out t419 ((j : Int) - 1) := by
   intro k
   clear s1 s2 ih hv hr hA xv h2 hhalf hlx hlr
   simp only [q0d.l0]
   rw [if_pos (by omega),hw0.out,hw1.out,hw2.out,Int.toNat_natCast,hx]
   simp only [if_pos (show 0 ≤ ((j / 32 : Nat) : Int) from by omega),if_pos (show ((j / 32 : Nat) : Int) < (out.length : Int) from by omega),if_pos (show 0 ≤ ((j % 32 : Nat) : Int) from by omega)]
   rfl
  by_cases hc : b * 2 ^ j ≤ r
  ·have s3 := qFv (q0t r) (q0t (b * 2 ^ j)) (by rw [q1e]; omega) (by rw [V_N,V_N]; exact hc)
   rw [V_N,V_N] at s3
   have s4 := ih (out.set (j / 32) x) (2 * Q + 1) (r - b * 2 ^ j) (by omega) (by rw [List.length_set,ho]) (hl.set _ x0 x1) ⟨xv⟩ ⟨by have := hr.out; rw [h2] at this; generalize b * 2 ^ j = z at *; omega⟩
    ⟨by
     have := hA.out
     rw [h2,← Nat.mul_assoc] at this
     rw [Nat.add_mul,Nat.one_mul,Nat.mul_comm 2 Q,Nat.mul_assoc,Nat.mul_comm 2,← Nat.mul_assoc]
     generalize Q * (b * 2 ^ j) * 2 = z2 at *
     generalize b * 2 ^ j = z at *
     omega⟩
   refine Ev.step (fun k => hstep k) ?_
   refine Ev.bind (f := fun k t => if t ≥ 0 then ((q0l.f k (N r) (N (b * 2 ^ j))).bind fun t414 => (q0j.f k (N (b * 2 ^ j)) ((1 : Nat) : Int)).bind fun t419 => q0d.l0 k t414 (out.set (j / 32) x) t419 ((j : Int) - 1)) else (q0j.f k (N (b * 2 ^ j)) ((1 : Nat) : Int)).bind fun t419 => q0d.l0 k (N r) out t419 ((j : Int) - 1)) s1 ?_
   have hcm : q9a r (b * 2 ^ j) ≥ 0 := by
    unfold q9a
    rw [if_neg (by omega)]
    split <;> omega
   refine Ev.congr (fun k => if_pos hcm) ?_
   exact Ev.bind (f := fun k t414 => (q0j.f k (N (b * 2 ^ j)) ((1 : Nat) : Int)).bind fun t419 => q0d.l0 k t414 (out.set (j / 32) x) t419 ((j : Int) - 1)) s3
    (Ev.bind (f := fun k t419 => q0d.l0 k (N (r - b * 2 ^ j)) (out.set (j / 32) x) t419 ((j : Int) - 1)) s2 s4)
  ·have s4 := ih out (2 * Q) r (by omega) ho hl ⟨by rw [hv.out,Nat.pow_succ,Nat.mul_comm 2 Q,Nat.mul_assoc,Nat.mul_comm 2]⟩ ⟨by omega⟩
    ⟨by
     have := hA.out
     rw [h2] at this
     rw [Nat.mul_comm 2 Q,Nat.mul_assoc,Nat.mul_comm 2]
     exact this⟩
   refine Ev.step (fun k => hstep k) ?_
   refine Ev.bind (f := fun k t => if t ≥ 0 then ((q0l.f k (N r) (N (b * 2 ^ j))).bind fun t414 => (q0j.f k (N (b * 2 ^ j)) ((1 : Nat) : Int)).bind fun t419 => q0d.l0 k t414 (out.set (j / 32) x) t419 ((j : Int) - 1)) else (q0j.f k (N (b * 2 ^ j)) ((1 : Nat) : Int)).bind fun t419 => q0d.l0 k (N r) out t419 ((j : Int) - 1)) s1 ?_
   have hcm : ¬ q9a r (b * 2 ^ j) ≥ 0 := by
    unfold q9a
    rw [if_pos (by omega)]
    omega
   refine Ev.congr (fun k => if_neg hcm) ?_
   exact Ev.bind (f := fun k t419 => q0d.l0 k (N r) out t419 ((j : Int) - 1)) s2 s4
theorem qFl {a b : List Int} (ha : q0i a) (hb : q0i b) (hsa : a.length < 268435456) (hsb : b.length < 268435456) :
  Ev (fun k => q0d.f k a b) (if V b = 0 then ([],[],false) else (N (V a / V b),N (V a % V b),true)) := by
 have s1 := qEk hb (by omega)
 have s2 := q2u ha (by omega)
 have s3 := qEk ha (by omega)
 by_cases hz : V b = 0
 ·rw [if_pos hz]
  rw [hz] at s1
  exact Ev.bind s1 (Ev.congr (fun k => by rw [if_pos (by rfl)]) (Ev.now _))
 ·rw [if_neg hz]
  have hna : nb (V a) ≤ 32 * a.length := qQf.2 (by rw [← qLq]; exact q9i ha)
  have hnb : nb (V b) ≤ 32 * b.length := qQf.2 (by rw [← qLq]; exact q9i hb)
  have hnz : nb (V b) ≠ 0 := fun h => by
   have := lt_nb (V b)
   rw [h] at this
   omega
  obtain ⟨m,hm⟩ : ∃ m : Nat,m = nb (V a) - nb (V b) := ⟨_,rfl⟩
  have hmx : Hd (mx 0 (wrap64 (((nb (V a) : Nat) : Int) - ((nb (V b) : Nat) : Int))) = (m : Int)) := ⟨by
   rw [w64 (by omega) (by omega)]
   unfold mx
   split <;> omega⟩
  have hw : Hd (wrap64 (wrap64 (Int.tdiv (m : Int) 32) + 1) = ((m / 32 + 1 : Nat) : Int)) := ⟨by
   rw [qCa,w64 (x := ((m / 32 : Nat) : Int)) (by omega) (by omega),w64 (by omega) (by omega)]
   rfl⟩
  have s4 := qKk hb (by omega) (n := m) (by omega)
  have hfit : V a < V b * 2 ^ (m + 1) := by
   have h1 := lt_nb (V a)
   have h2 : ¬ V b < 2 ^ (nb (V b) - 1) := fun h => by
    have := qQf.2 h
    omega
   refine Nat.lt_of_lt_of_le h1 (Nat.le_trans ?_ (Nat.mul_le_mul_right _ (Nat.le_of_not_lt h2)))
   rw [← Nat.pow_add]
   exact Nat.pow_le_pow_right (by omega) (by omega)
  have hlm : len (V b * 2 ^ m) ≤ b.length + (m / 32 + 1) := q2x.2    (by
   rw [Nat.pow_add]
   refine Nat.mul_lt_mul'' (q9i hb) ?_
   rw [qLq]
   exact Nat.pow_lt_pow_right (by omega) (by omega))
  have hla := q7s ha
  have hhalf : V b * 2 ^ (m + 1) / 2 = V b * 2 ^ m := by rw [Nat.pow_succ,← Nat.mul_assoc,Nat.mul_div_cancel _ (by omega)]
  have s5 := qWr (V a) (V b) m (by omega) (by omega) (by omega) (by omega) (m + 1) (List.replicate (m / 32 + 1) 0) 0 (V a) (Nat.le_refl _) (by rw [List.length_replicate]) (q0i.rep _)
   ⟨by rw [qMv,Nat.zero_mul]⟩ ⟨hfit⟩ ⟨by rw [Nat.zero_mul,Nat.zero_add]⟩
  rw [hhalf,show ((m + 1 : Nat) : Int) - 1 = (m : Int) from by omega] at s5
  have e1 : ∀ k,(if ((nb (V b) : Nat) : Int) = 0 then (some (([] : List Int),([] : List Int),false)) else ((q0a.f k a).bind fun t399 => ((q0k.f k a).bind fun t402 => ((q0k.f k b).bind fun t403 => (if 0 ≤ (wrap64 ((wrap64 (Int.tdiv (mx 0 (wrap64 (t402 - t403))) 32)) + 1)) then (if (wrap64 ((wrap64 (Int.tdiv (mx 0 (wrap64 (t402 - t403))) 32)) + 1) : Int).toNat ≤ 70368744177664 then ((q0q.f k b (mx 0 (wrap64 (t402 - t403)))).bind fun t407 => (q0d.l0 k t399 (List.replicate (wrap64 ((wrap64 (Int.tdiv (mx 0 (wrap64 (t402 - t403))) 32)) + 1) : Int).toNat 0) t407 (mx 0 (wrap64 (t402 - t403))))) else (none)) else (none))))))
    = ((q0a.f k a).bind fun t399 => ((q0k.f k a).bind fun t402 => ((q0k.f k b).bind fun t403 => (if 0 ≤ (wrap64 ((wrap64 (Int.tdiv (mx 0 (wrap64 (t402 - t403))) 32)) + 1)) then (if (wrap64 ((wrap64 (Int.tdiv (mx 0 (wrap64 (t402 - t403))) 32)) + 1) : Int).toNat ≤ 70368744177664 then ((q0q.f k b (mx 0 (wrap64 (t402 - t403)))).bind fun t407 => (q0d.l0 k t399 (List.replicate (wrap64 ((wrap64 (Int.tdiv (mx 0 (wrap64 (t402 - t403))) 32)) + 1) : Int).toNat 0) t407 (mx 0 (wrap64 (t402 - t403))))) else (none)) else (none))))) := fun k => if_neg (by omega)
  refine Ev.bind s1 (Ev.congr (fun k => e1 k) ?_)
  refine Ev.bind (f := fun k t399 => ((q0k.f k a).bind fun t402 => ((q0k.f k b).bind fun t403 => (if 0 ≤ (wrap64 ((wrap64 (Int.tdiv (mx 0 (wrap64 (t402 - t403))) 32)) + 1)) then (if (wrap64 ((wrap64 (Int.tdiv (mx 0 (wrap64 (t402 - t403))) 32)) + 1) : Int).toNat ≤ 70368744177664 then ((q0q.f k b (mx 0 (wrap64 (t402 - t403)))).bind fun t407 => (q0d.l0 k t399 (List.replicate (wrap64 ((wrap64 (Int.tdiv (mx 0 (wrap64 (t402 - t403))) 32)) + 1) : Int).toNat 0) t407 (mx 0 (wrap64 (t402 - t403))))) else (none)) else (none))))) s2 ?_
  refine Ev.bind (f := fun k t402 => ((q0k.f k b).bind fun t403 => (if 0 ≤ (wrap64 ((wrap64 (Int.tdiv (mx 0 (wrap64 (t402 - t403))) 32)) + 1)) then (if (wrap64 ((wrap64 (Int.tdiv (mx 0 (wrap64 (t402 - t403))) 32)) + 1) : Int).toNat ≤ 70368744177664 then ((q0q.f k b (mx 0 (wrap64 (t402 - t403)))).bind fun t407 => (q0d.l0 k (N (V a)) (List.replicate (wrap64 ((wrap64 (Int.tdiv (mx 0 (wrap64 (t402 - t403))) 32)) + 1) : Int).toNat 0) t407 (mx 0 (wrap64 (t402 - t403))))) else (none)) else (none)))) s3 ?_
  refine Ev.bind (f := fun k t403 => (if 0 ≤ (wrap64 ((wrap64 (Int.tdiv (mx 0 (wrap64 (((nb (V a) : Nat) : Int) - t403))) 32)) + 1)) then (if (wrap64 ((wrap64 (Int.tdiv (mx 0 (wrap64 (((nb (V a) : Nat) : Int) - t403))) 32)) + 1) : Int).toNat ≤ 70368744177664 then ((q0q.f k b (mx 0 (wrap64 (((nb (V a) : Nat) : Int) - t403)))).bind fun t407 => (q0d.l0 k (N (V a)) (List.replicate (wrap64 ((wrap64 (Int.tdiv (mx 0 (wrap64 (((nb (V a) : Nat) : Int) - t403))) 32)) + 1) : Int).toNat 0) t407 (mx 0 (wrap64 (((nb (V a) : Nat) : Int) - t403))))) else (none)) else (none))) s1 ?_
  refine Ev.congr (f := fun k => (q0q.f k b (m : Int)).bind fun t407 => q0d.l0 k (N (V a)) (List.replicate (m / 32 + 1) 0) t407 (m : Int)) (fun k => ?_) ?_
  ·rw [hmx.out,hw.out,if_pos (by omega),Int.toNat_natCast,if_pos (by omega)]
  ·exact Ev.bind (f := fun k t407 => q0d.l0 k (N (V a)) (List.replicate (m / 32 + 1) 0) t407 (m : Int)) s4 s5
theorem qUh (x y : Nat) (hx : len x < 268435456) (hy : len y < 268435456) : Ev (fun k => q0o.l0 k (N x) (N y)) (N (Nat.gcd x y)) := by
 induction y using Nat.strongRecOn generalizing x with
 | ind y ih =>
  by_cases hz : y = 0
  ·subst hz
   rw [Nat.gcd_zero_right]
   refine Ev.step (f := fun _ => some (N x)) (fun k => ?_) (Ev.now _)
   simp only [q0o.l0]
   rw [q5j,if_neg (by simp)]
  ·have hlt : x % y < y := Nat.mod_lt x (by omega)
   have hlm := q2h (Nat.le_of_lt hlt)
   have s1 := qFl (q0t x) (q0t y) (by rw [q1e]; omega) (by rw [q1e]; omega)
   rw [V_N,V_N,if_neg hz] at s1
   have s2 := ih (x % y) hlt y hy (by omega)
   rw [Nat.gcd_comm y,← Nat.gcd_rec,Nat.gcd_comm] at s2
   refine Ev.step (f := fun k => (q0d.f k (N x) (N y)).bind fun bt => q0o.l0 k (N y) bt.2.1) (fun k => ?_) (Ev.bind (f := fun k (bt : List Int × List Int × Bool) => q0o.l0 k (N y) bt.2.1) s1 s2)
   simp only [q0o.l0]
   have : len y ≠ 0 := fun h => hz (q3m.1 h)
   rw [q1e,if_pos (by omega)]
theorem qQa {a b : List Int} (ha : q0i a) (hb : q0i b) (hsa : a.length < 268435456) (hsb : b.length < 268435456) : Ev (fun k => q0o.f k a b) (N (Nat.gcd (V a) (V b))) := by
 have := q7s ha
 have := q7s hb
 exact Ev.bind (q2u ha (by omega)) (Ev.bind (q2u hb (by omega)) (qUh _ _ (by omega) (by omega)))
theorem qFe (e : Nat) (h : len e < 1073741824) : ∃ r : Nat,Ev (fun k => q6g.f k (N e)) (r : Int) ∧ e < 2 ^ r ∧ r ≤ 32 * len e := by
 have s1 := q6i (q0t e) (by rw [q1e]; omega)
 rw [V_N] at s1
 by_cases hz : e = 0
 ·subst hz
  refine ⟨0,Ev.bind s1 (Ev.congr (fun k => by rw [q8s,if_pos (by rfl)]; rfl) (Ev.now _)),by simp,by omega⟩
 ·obtain ⟨n,hn,ht⟩ := qSx hz
  have rt := q1d (q0t e) (n : Int)
  obtain ⟨tp,htp⟩ := Int.eq_ofNat_of_zero_le rt.1
  obtain ⟨s,hs,hs1,hs2⟩ := qDk tp (by omega)
  have hN : (N e).length = n + 1 := hn
  refine ⟨32 * n + s,Ev.bind s1 (Ev.congr (fun k => ?_) (Ev.now _)),?_,by omega⟩
  ·have hw0 : Hd (wrap64 (((n + 1 : Nat) : Int) - 1) = (n : Int)) := ⟨by rw [w64 (by omega) (by omega)]; omega⟩
   rw [hn,hw0.out,if_neg (by omega),if_pos (by omega),hN,if_pos (by omega),htp]
   show (q4d.f (tp : Int)).bind _ = _
   rw [hs,Option.bind_some,w64 (x := 32 * (n : Int)) (by omega) (by omega),w64 (by omega) (by omega)]
   rfl
  ·have e1 := q4l (N e) n (by omega)
   have e3 := q9i ((q0t e).take n)
   rw [q4k _ n (by omega),show (N e).drop (n + 1) = [] from List.drop_eq_nil_of_le (by omega),q4f,q5y,htp,Int.toNat_natCast,V_N,Nat.mul_zero,Nat.add_zero] at e1
   rw [List.length_take,Nat.min_eq_left (by omega)] at e3
   rw [Nat.pow_add,← qLq]
   have e4 : 4294967296 ^ n * (tp + 1) ≤ 4294967296 ^ n * 2 ^ s := Nat.mul_le_mul_left _ hs2
   rw [Nat.mul_add,Nat.mul_one] at e4
   generalize 4294967296 ^ n * 2 ^ s = z1 at *
   generalize 4294967296 ^ n * tp = z2 at *
   generalize 4294967296 ^ n = z3 at *
   clear hs2 s1 ht
   omega
theorem qWj (A x e : Nat) (h : x ≤ e) (hx : ¬ len (A ^ x) ≤ 256) : ¬ len (A ^ e) ≤ 256 := by
 intro h2
 by_cases hA : A = 0
 ·subst hA
  have : (0 : Nat) ^ x ≤ 1 := by
   cases x with
   | zero => simp
   | succ x => rw [Nat.zero_pow (by omega)]; omega
  have h3 := q2h this
  have h4 : len 1 ≤ 1 := q2x.2 (by omega)
  omega
 ·have := q2h (Nat.pow_le_pow_right (n := A) (by omega) h)
  omega
theorem qXn {a : List Int} (ha : q0i a) (hsa : a.length < 68719476736) (e : Nat) (he : len e < 1073741824) : ∀ j : Nat,j < 1099511627776 → len (V a ^ (e / 2 ^ j)) ≤ 256 →
  Ev (fun k => q1x.l0 k a (N (V a ^ (e / 2 ^ j))) (N e) ((j : Int) - 1)) (if len (V a ^ e) ≤ 256 then (N (V a ^ e),true) else ([],false)) := by
 intro j
 induction j with
 | zero =>
  intro hj hl
  rw [Nat.pow_zero,Nat.div_one] at hl
  rw [Nat.pow_zero,Nat.div_one,if_pos hl]
  refine Ev.step (f := fun k => some _) (fun k => ?_) (Ev.now _)
  simp only [q1x.l0]
  rw [if_neg (by omega)]
 | succ j ih =>
  intro hj hl
  have hw0 : Hd (wrap64 ((j : Int) - 1) = (j : Int) - 1) := ⟨by rw [w64 (by omega) (by omega)]⟩
  have hj1 : ((j + 1 : Nat) : Int) - 1 = (j : Int) := by omega
  have hm : e / 2 ^ (j + 1) = e / 2 ^ j / 2 := by rw [Nat.pow_succ,Nat.div_div_eq_div_mul]
  have hme : e / 2 ^ j ≤ e := Nat.div_le_self _ _
  have hbt := qWv (q0t e) j (by omega)
  rw [V_N] at hbt
  rw [hm] at hl ⊢
  generalize e / 2 ^ j = m at *
  have hsq : V a ^ (m / 2) * V a ^ (m / 2) = V a ^ (2 * (m / 2)) := by rw [← Nat.pow_add]; congr 1; omega
  have s1 := qAd (q0t (V a ^ (m / 2))) (q0t (V a ^ (m / 2))) (by rw [q1e]; omega) (by rw [q1e]; omega)
  rw [V_N,hsq] at s1
  rw [hj1]
  refine Ev.step (f := fun k => (q1k.f k (N (V a ^ (m / 2))) (N (V a ^ (m / 2)))).bind fun t282 => (if (t282.length : Int) > 256 then (some (([] : List Int),false)) else ((q6k.f (N e) (j : Int)).bind fun t285 => (if t285 = true then ((q1k.f k t282 a).bind fun t286 => (if (t286.length : Int) > 256 then (some (([] : List Int),false)) else (q1x.l0 k a t286 (N e) ((j : Int) - 1)))) else (q1x.l0 k a t282 (N e) ((j : Int) - 1)))))) (fun k => ?_) ?_
  ·clear s1 hsq ih hbt
   simp only [q1x.l0]
   rw [if_pos (by omega),hw0.out]
  refine Ev.bind (f := fun k t282 => (if (t282.length : Int) > 256 then (some (([] : List Int),false)) else ((q6k.f (N e) (j : Int)).bind fun t285 => (if t285 = true then ((q1k.f k t282 a).bind fun t286 => (if (t286.length : Int) > 256 then (some (([] : List Int),false)) else (q1x.l0 k a t286 (N e) ((j : Int) - 1)))) else (q1x.l0 k a t282 (N e) ((j : Int) - 1)))))) s1 ?_
  by_cases h1 : len (V a ^ (2 * (m / 2))) ≤ 256
  ·refine Ev.congr (f := fun k => (if decide (m % 2 = 1) = true then ((q1k.f k (N (V a ^ (2 * (m / 2)))) a).bind fun t286 => (if (t286.length : Int) > 256 then (some (([] : List Int),false)) else (q1x.l0 k a t286 (N e) ((j : Int) - 1)))) else (q1x.l0 k a (N (V a ^ (2 * (m / 2)))) (N e) ((j : Int) - 1)))) (fun k => by rw [q1e,if_neg (by omega),hbt,Option.bind_some]) ?_
   by_cases h2 : m % 2 = 1
   ·have hm2 : V a ^ (2 * (m / 2)) * V a = V a ^ m := by rw [← Nat.pow_succ]; congr 1; omega
    have s2 := qAd (q0t (V a ^ (2 * (m / 2)))) ha (by rw [q1e]; omega) (by omega)
    rw [V_N,hm2] at s2
    refine Ev.congr (fun k => if_pos (by simpa using h2)) (Ev.bind (f := fun k t286 => (if (t286.length : Int) > 256 then (some (([] : List Int),false)) else (q1x.l0 k a t286 (N e) ((j : Int) - 1)))) s2 ?_)
    by_cases h3 : len (V a ^ m) ≤ 256
    ·exact Ev.congr (fun k => by rw [q1e,if_neg (by omega)]) (ih (by omega) h3)
    ·rw [if_neg (qWj (V a) m e hme h3)]
     exact Ev.congr (fun k => by rw [q1e,if_pos (by omega)]) (Ev.now _)
   ·have hm2 : 2 * (m / 2) = m := by omega
    rw [hm2] at h1 ⊢
    exact Ev.congr (fun k => if_neg (by simpa using h2)) (ih (by omega) h1)
  ·rw [if_neg (qWj (V a) _ e (by omega) h1)]
   exact Ev.congr (fun k => by rw [q1e,if_pos (by omega)]) (Ev.now _)
theorem qRi {a : List Int} (ha : q0i a) (hsa : a.length < 68719476736) (e : Nat) (he : e < 9223372036854775808) : Ev (fun k => q1x.f k a (e : Int)) (if len (V a ^ e) ≤ 256 then (N (V a ^ e),true) else ([],false)) := by
 have hle : len e ≤ 2 := q2x.2 (by omega)
 have hl1 : len 1 ≤ 1 := q2x.2 (by omega)
 obtain ⟨r,s3,h1,h2⟩ := qFe e (by omega)
 have s1 := q8c (v := 1) (by omega) (by omega)
 have s2 := q8c (v := (e : Int)) (by omega) (by omega)
 rw [Int.toNat_natCast] at s2
 have hz : e / 2 ^ r = 0 := Nat.div_eq_of_lt h1
 have s4 := qXn ha hsa e (by omega) r (by omega) (by rw [hz,Nat.pow_zero]; omega)
 rw [hz,Nat.pow_zero] at s4
 refine Ev.congr (f := fun k => (q3x.f k 1).bind fun t275 => ((q3x.f k (e : Int)).bind fun t278 => ((q6g.f k t278).bind fun t281 => (q1x.l0 k a t275 t278 (wrap64 (t281 - 1)))))) (fun k => ?_) ?_
 ·clear s4 h1 hz
  unfold q1x.f
  rw [if_neg (by omega),u64 (by omega) (by omega)]
 ·refine Ev.bind (f := fun k t275 => ((q3x.f k (e : Int)).bind fun t278 => ((q6g.f k t278).bind fun t281 => (q1x.l0 k a t275 t278 (wrap64 (t281 - 1)))))) s1 ?_
  refine Ev.bind (f := fun k t278 => ((q6g.f k t278).bind fun t281 => (q1x.l0 k a (N 1) t278 (wrap64 (t281 - 1))))) s2 ?_
  refine Ev.bind (f := fun k t281 => (q1x.l0 k a (N 1) (N e) (wrap64 (t281 - 1)))) s3 ?_
  clear h1 hz
  rw [w64 (x := (r : Int) - 1) (by omega) (by omega)]
  exact s4
theorem qNh (a b : List Int) (i : Nat) (ha : i < a.length) (hb : i < b.length) : a.drop i = b.drop i ↔ rd a (i : Int) = rd b (i : Int) ∧ a.drop (i + 1) = b.drop (i + 1) := by
 rw [q4k a i ha,q4k b i hb,List.cons.injEq]
theorem qUe (a b : List Int) (hl : a.length = b.length) (hs : a.length < 1099511627776) (d : Nat) : ∀ i : Nat,i + d = a.length → Ev (fun k => q0p.l0 k a b (i : Int)) (decide (a.drop i = b.drop i)) := by
 induction d with
 | zero =>
  intro i hi
  rw [List.drop_eq_nil_of_le (by omega),List.drop_eq_nil_of_le (by omega),decide_eq_true rfl]
  exact Ev.step (f := fun _ => some true) (fun k => by simp only [q0p.l0]; rw [if_neg (by omega)]) (Ev.now _)
 | succ d ih =>
  intro i hi
  have s := ih (i + 1) (by omega)
  have hw : wrap64 ((i : Int) + 1) = ((i + 1 : Nat) : Int) := by rw [w64 (by omega) (by omega)]; rfl
  have e := qNh a b i (by omega) (by omega)
  by_cases h : rd a (i : Int) = rd b (i : Int)
  ·rw [decide_eq_decide.2 (e.trans (and_iff_right h))]
   refine Ev.step (fun k => ?_) s
   simp only [q0p.l0]
   rw [if_pos (by omega),if_pos (by omega),if_pos (by omega),if_pos h,hw]
  ·rw [decide_eq_false (fun h2 => h (e.1 h2).1)]
   refine Ev.step (f := fun _ => some false) (fun k => ?_) (Ev.now _)
   simp only [q0p.l0]
   rw [if_pos (by omega),if_pos (by omega),if_pos (by omega),if_neg h]
theorem qQc (a b : List Int) (hs : a.length < 1099511627776) : Ev (fun k => q0p.f k a b) (decide (a = b)) := by
 by_cases h : a.length = b.length
 ·have := qUe a b h hs a.length 0 (by omega)
  exact Ev.congr (fun k => by unfold q0p.f; rw [if_pos (by omega)]; rfl) this
 ·rw [decide_eq_false (fun h2 => h (by rw [h2]))]
  exact Ev.congr (fun k => by unfold q0p.f; rw [if_neg (by omega)]) (Ev.now _)
theorem qDr {l : List Int} (hl : q0i l) (n : Nat) (hn : l.length = n + 1) : (rd l (n : Int) != 0) = decide (N (V l) = l) := by
 have hne : l ≠ [] := fun h => by rw [h] at hn; simp at hn
 have e : rd l (n : Int) = l.getLast hne := by
  rw [List.getLast_eq_getElem,q6z,List.getD_eq_getElem?_getD,List.getElem?_eq_getElem (by omega),Option.getD_some]
  congr 1
  omega
 rw [e]
 by_cases h : l.getLast hne = 0
 ·rw [h,decide_eq_false]
  ·rfl
  ·intro h2
   have h3 : N (V l) ≠ [] := by rw [h2]; exact hne
   have := j0i (V l) h3
   exact this (by simp only [h2]; exact h)
 ·rw [decide_eq_true (N_V hl (fun _ => h))]
  simp [h]
theorem q9g {l : List Int} (hl : q0i l) (hs : l.length < 9223372036854775808) : q0z.f l = some (decide (N (V l) = l)) := by
 unfold q0z.f
 by_cases h : l.length = 0
 ·rw [if_pos (by omega),List.length_eq_zero_iff.1 h,q5y,q5j,decide_eq_true rfl]
 ·obtain ⟨n,hn⟩ := Nat.exists_eq_succ_of_ne_zero h
  have hw : Hd (wrap64 ((l.length : Int) - 1) = (n : Int)) := ⟨by rw [w64 (by omega) (by omega)]; omega⟩
  rw [if_neg (by omega),hw.out,if_pos (by omega),if_pos (by omega),qDr hl n hn]
theorem qAp {l : List Int} (hl : q0i l) (hs : l.length < 9223372036854775808) : q2m.f l = some (decide (N (V l) = l)) := by
 unfold q2m.f
 by_cases h : l.length = 0
 ·rw [if_pos (by omega),List.length_eq_zero_iff.1 h,q5y,q5j,decide_eq_true rfl]
 ·obtain ⟨n,hn⟩ := Nat.exists_eq_succ_of_ne_zero h
  have hw : Hd (wrap64 ((l.length : Int) - 1) = (n : Int)) := ⟨by rw [w64 (by omega) (by omega)]; omega⟩
  rw [if_neg (by omega),hw.out,if_pos (by omega),if_pos (by omega),qDr hl n hn]
theorem qIx (a b : Int) (h0 : 0 ≤ b) (h1 : b ≤ 9223372036854775807) : q1t.f a b = some (decide (-b ≤ a ∧ a ≤ b)) := by
 unfold q1t.f
 rw [w64 (by omega) (by omega)]
 by_cases h : -b ≤ a
 ·rw [if_pos (by omega)]; congr 1; simp [h]
 ·rw [if_neg (by omega)]; congr 1; simp [h]
end Go.Proofs.YtjkcmnedolfkjaaGreat.Num
end
