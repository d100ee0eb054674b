/- Part 3 of the proof. -/
import Derived.Below
import Derived.Deep.Draws
import Derived.Deep.AppendLies
import Derived.Maps.AppendAt
import Derived.OwnWalk
import Derived.Laws.BytesArg
import Derived.Laws.MakeOwn
import Derived.Laws.OwnMore
import Derived.Deep.OwnRows
import Derived.Tactics
import Derived.Lib.ConvBytes
import Derived.Laws.Slices
import Derived.WalkKit
import Derived.KernelRfl
import Derived.RowKit3
import Derived.Deep.LoopGhost
import Derived.Deep.QuietTactic
import Derived.BigQuiet
import Derived.WideLaws
import Derived.Deep.DeepCutAuto
import Derived.Deep.CutBlock
import Derived.Deep.RegionHeld3
import Derived.Laws.Rows
import Derived.Lib.AppendStr
import Derived.ArgAppend
import Derived.Laws.IdiomCopy
import Derived.RowKit
import Derived.OrdersHeld
import Derived.Laws.BitsLemmas
import Derived.Laws.Bits64b
import Derived.Test.YtjkcmnedolfkjaaGreatProg
import Derived.Laws.StructEq
import Derived.Laws.BitsAllLaws
import Derived.Test.YtjkcmnedolfkjaaGreatU2
set_option linter.unusedVariables false
set_option linter.unusedSimpArgs false
set_option maxHeartbeats 8000000
set_option maxRecDepth 100000
section
set_option linter.unusedVariables false
set_option linter.unusedSimpArgs false
namespace Go.Proofs.YtjkcmnedolfkjaaGreat.Num
open Go.RowKit Go.Proofs.YtjkcmnedolfkjaaGreatW.PrintWords

def Limbs (l : List Int) : Prop := ∀ x, x ∈ l → 0 ≤ x ∧ x < 4294967296
def V : List Int → Nat
 | [] => 0
 | x :: l => x.toNat + 4294967296 * V l
def N (n : Nat) : List Int := if h : n = 0 then [] else ((n % 4294967296 : Nat) : Int) :: N (n / 4294967296)
termination_by n
decreasing_by omega
def len (n : Nat) : Nat := (N n).length

theorem N_zero : N 0 = [] := by unfold N; rfl
theorem N_pos {n : Nat} (h : n ≠ 0) : N n = ((n % 4294967296 : Nat) : Int) :: N (n / 4294967296) := by rw [N, dif_neg h]
theorem len_zero : len 0 = 0 := by unfold len; rw [N_zero]; rfl
theorem len_pos {n : Nat} (h : n ≠ 0) : len n = len (n / 4294967296) + 1 := by unfold len; rw [N_pos h]; rfl
theorem V_nil : V [] = 0 := rfl
theorem V_cons (x : Int) (l : List Int) : V (x :: l) = x.toNat + 4294967296 * V l := rfl
theorem Limbs.nil : Limbs [] := fun _ h => by cases h
theorem Limbs.cons {x : Int} {l : List Int} (h0 : 0 ≤ x) (h1 : x < 4294967296) (h : Limbs l) : Limbs (x :: l) := by
 intro y hy
 rcases List.mem_cons.1 hy with rfl | hy
 ·exact ⟨h0, h1⟩
 ·exact h y hy
theorem Limbs.head {x : Int} {l : List Int} (h : Limbs (x :: l)) : 0 ≤ x ∧ x < 4294967296 := h x (List.mem_cons_self ..)
theorem Limbs.tail {x : Int} {l : List Int} (h : Limbs (x :: l)) : Limbs l := fun y hy => h y (List.mem_cons_of_mem _ hy)
theorem Limbs.app {a b : List Int} (ha : Limbs a) (hb : Limbs b) : Limbs (a ++ b) := by
 intro y hy
 rcases List.mem_append.1 hy with h | h
 ·exact ha y h
 ·exact hb y h
theorem Limbs.left {a b : List Int} (h : Limbs (a ++ b)) : Limbs a := fun y hy => h y (List.mem_append_left _ hy)
theorem Limbs.right {a b : List Int} (h : Limbs (a ++ b)) : Limbs b := fun y hy => h y (List.mem_append_right _ hy)
theorem Limbs.take {l : List Int} (h : Limbs l) (n : Nat) : Limbs (l.take n) := fun y hy => h y (List.mem_of_mem_take hy)
theorem Limbs.drop {l : List Int} (h : Limbs l) (n : Nat) : Limbs (l.drop n) := fun y hy => h y (List.mem_of_mem_drop hy)
theorem Limbs.set {l : List Int} (h : Limbs l) (i : Nat) {x : Int} (h0 : 0 ≤ x) (h1 : x < 4294967296) : Limbs (l.set i x) := by
 intro y hy
 rcases List.mem_or_eq_of_mem_set hy with h2 | rfl
 ·exact h y h2
 ·exact ⟨h0, h1⟩
theorem Limbs.rep (n : Nat) : Limbs (List.replicate n (0 : Int)) := fun y hy => by
 have := List.eq_of_mem_replicate hy
 omega
theorem Limbs.one {x : Int} (h0 : 0 ≤ x) (h1 : x < 4294967296) : Limbs [x] := Limbs.cons h0 h1 Limbs.nil
theorem Limbs.splice {xs ys : List Int} (hx : Limbs xs) (hy : Limbs ys) (n : Nat) : Limbs (splice xs n ys) := (hx.take n).app ((hy.take _).app (hx.drop _))

theorem V_append (a b : List Int) : V (a ++ b) = V a + 4294967296 ^ a.length * V b := by
 induction a with
 | nil => simp [V]
 | cons x a ih => rw [List.cons_append, V_cons, V_cons, ih, List.length_cons, Nat.pow_succ, Nat.mul_add, Nat.mul_comm (4294967296 ^ a.length) 4294967296, Nat.mul_assoc]; omega
theorem V_lt {l : List Int} (h : Limbs l) : V l < 4294967296 ^ l.length := by
 induction l with
 | nil => simp [V]
 | cons x l ih =>
  have := ih h.tail
  have := h.head
  rw [V_cons, List.length_cons, Nat.pow_succ]
  omega
theorem V_rep (n : Nat) : V (List.replicate n (0 : Int)) = 0 := by
 induction n with
 | zero => rfl
 | succ n ih => rw [List.replicate_succ, V_cons, ih]; rfl
theorem V_snoc (l : List Int) (x : Int) : V (l ++ [x]) = V l + 4294967296 ^ l.length * x.toNat := by rw [V_append, V_cons, V_nil]; rfl
theorem V_take_drop (l : List Int) (n : Nat) (h : n ≤ l.length) : V l = V (l.take n) + 4294967296 ^ n * V (l.drop n) := by
 have e := V_append (l.take n) (l.drop n)
 rw [List.take_append_drop, List.length_take, Nat.min_eq_left h] at e
 exact e
theorem V_take {l : List Int} (hl : Limbs l) (n : Nat) (h : n ≤ l.length) : V (l.take n) = V l % 4294967296 ^ n := by
 have h1 := V_take_drop l n h
 have h2 := V_lt (hl.take n)
 rw [List.length_take, Nat.min_eq_left h] at h2
 rw [h1, Nat.add_mul_mod_self_left, Nat.mod_eq_of_lt h2]
theorem V_drop {l : List Int} (hl : Limbs l) (n : Nat) (h : n ≤ l.length) : V (l.drop n) = V l / 4294967296 ^ n := by
 have h1 := V_take_drop l n h
 have h2 := V_lt (hl.take n)
 rw [List.length_take, Nat.min_eq_left h] at h2
 rw [h1, Nat.add_mul_div_left _ _ (Nat.pow_pos (by omega)), Nat.div_eq_of_lt h2, Nat.zero_add]
theorem rd_nonneg {l : List Int} (h : Limbs l) (i : Int) : 0 ≤ rd l i ∧ rd l i < 4294967296 := by
 unfold rd
 rw [List.getD_eq_getElem?_getD]
 cases hg : l[i.toNat]? with
 | none => simp
 | some x => exact h x (List.mem_of_getElem? hg)
theorem rd_cast (l : List Int) (i : Nat) : rd l (i : Int) = l.getD i 0 := by unfold rd; rw [Int.toNat_natCast]
theorem take_succ (l : List Int) (i : Nat) (h : i < l.length) : l.take (i + 1) = l.take i ++ [rd l (i : Int)] := by
 rw [List.take_succ_eq_append_getElem h, rd_cast, List.getD_eq_getElem?_getD, List.getElem?_eq_getElem h]
 rfl
theorem V_take_succ (l : List Int) (i : Nat) (h : i < l.length) : V (l.take (i + 1)) = V (l.take i) + 4294967296 ^ i * (rd l (i : Int)).toNat := by
 rw [take_succ l i h, V_snoc, List.length_take, Nat.min_eq_left (by omega)]
theorem drop_cons (l : List Int) (i : Nat) (h : i < l.length) : l.drop i = rd l (i : Int) :: l.drop (i + 1) := by
 rw [List.drop_eq_getElem_cons h, rd_cast, List.getD_eq_getElem?_getD, List.getElem?_eq_getElem h]
 rfl
theorem rd_out (l : List Int) (i : Nat) (h : l.length ≤ i) : rd l (i : Int) = 0 := by
 rw [rd_cast, List.getD_eq_getElem?_getD, List.getElem?_eq_none h]
 rfl

theorem N_limbs (n : Nat) : Limbs (N n) := by
 induction n using Nat.strongRecOn with
 | _ n ih =>
  by_cases h : n = 0
  ·subst h; rw [N_zero]; exact Limbs.nil
  ·rw [N_pos h]
   exact Limbs.cons (by omega) (by omega) (ih _ (by omega))
theorem V_N (n : Nat) : V (N n) = n := by
 induction n using Nat.strongRecOn with
 | _ n ih =>
  by_cases h : n = 0
  ·subst h; rw [N_zero]; rfl
  ·rw [N_pos h, V_cons, ih _ (by omega)]
   omega
theorem N_V {l : List Int} (h : Limbs l) (hl : ∀ h : l ≠ [], l.getLast h ≠ 0) : N (V l) = l := by
 induction l with
 | nil => exact N_zero
 | cons x l ih =>
  have hx := h.head
  have hne : V (x :: l) ≠ 0 := by
   intro h0
   rw [V_cons] at h0
   cases l with
   | nil => have := hl (by simp); simp at this; omega
   | cons y l =>
    have h1 := ih h.tail (fun h => by have := hl (by simp); rwa [List.getLast_cons h] at this)
    have h2 : V (y :: l) = 0 := by omega
    rw [h2, N_zero] at h1
    cases h1
  rw [N_pos hne]
  have e1 : V (x :: l) % 4294967296 = x.toNat := by rw [V_cons, Nat.add_mul_mod_self_left, Nat.mod_eq_of_lt (by omega)]
  have e2 : V (x :: l) / 4294967296 = V l := by rw [V_cons, Nat.add_mul_div_left _ _ (by omega), Nat.div_eq_of_lt (by omega), Nat.zero_add]
  rw [e1, e2]
  have e3 : N (V l) = l := ih h.tail (fun hh => by have := hl (by simp); rwa [List.getLast_cons hh] at this)
  rw [e3]
  congr 1
  omega
theorem N_last (n : Nat) : ∀ h : N n ≠ [], (N n).getLast h ≠ 0 := by
 induction n using Nat.strongRecOn with
 | _ n ih =>
  intro h
  by_cases h0 : n = 0
  ·subst h0; exact absurd N_zero h
  ·have e := N_pos h0
   by_cases h1 : n / 4294967296 = 0
   ·rw [h1, N_zero] at e
    simp only [e, List.getLast_singleton]
    omega
   ·have h2 : N (n / 4294967296) ≠ [] := by rw [N_pos h1]; simp
    have h3 := ih _ (by omega) h2
    simp only [e]
    rw [List.getLast_cons h2]
    exact h3
theorem len_le {n k : Nat} : len n ≤ k ↔ n < 4294967296 ^ k := by
 induction k generalizing n with
 | zero =>
  rw [Nat.pow_zero]
  constructor
  ·intro h
   by_cases h0 : n = 0
   ·omega
   ·rw [len_pos h0] at h; omega
  ·intro h
   obtain rfl : n = 0 := by omega
   rw [len_zero]
   omega
 | succ k ih =>
  by_cases h0 : n = 0
  ·subst h0
   rw [len_zero]
   constructor
   ·intro _; exact Nat.pow_pos (by omega)
   ·intro _; omega
  ·rw [len_pos h0, Nat.pow_succ]
   have := @ih (n / 4294967296)
   rw [Nat.add_le_add_iff_right, this, Nat.div_lt_iff_lt_mul (by omega)]
theorem lt_len (n : Nat) : n < 4294967296 ^ len n := len_le.1 (Nat.le_refl _)
theorem len_V {l : List Int} (h : Limbs l) : len (V l) ≤ l.length := len_le.2 (V_lt h)
theorem len_mono {a b : Nat} (h : a ≤ b) : len a ≤ len b := len_le.2 (Nat.lt_of_le_of_lt h (lt_len b))
theorem N_length (n : Nat) : (N n).length = len n := rfl
theorem len_eq_zero {n : Nat} : len n = 0 ↔ n = 0 := by
 constructor
 ·intro h
  have := lt_len n
  rw [h] at this
  omega
 ·rintro rfl; exact len_zero
theorem N_take {l : List Int} (h : Limbs l) : l.take (len (V l)) = N (V l) := by
 have hle := len_V h
 have e : V (l.take (len (V l))) = V l := by rw [V_take h _ hle, Nat.mod_eq_of_lt (lt_len _)]
 have hlen : (l.take (len (V l))).length = len (V l) := by rw [List.length_take, Nat.min_eq_left hle]
 rw [← N_V (h.take (len (V l))) ?_, e]
 intro hne h0
 have h1 := List.dropLast_concat_getLast hne
 rw [h0] at h1
 have h2 := V_append (l.take (len (V l))).dropLast [0]
 rw [h1, e, V_cons, V_nil] at h2
 have h3 : V (l.take (len (V l))).dropLast < 4294967296 ^ (len (V l) - 1) := by
  have := V_lt (l := (l.take (len (V l))).dropLast) (fun y hy => h.take _ y (by rw [List.dropLast_eq_take] at hy; exact List.mem_of_mem_take hy))
  rwa [List.length_dropLast, hlen] at this
 have h4 : len (V l) ≤ len (V l) - 1 := len_le.2 (by simp at h2; omega)
 have h5 : len (V l) ≠ 0 := by
  intro hz
  rw [hz] at hne
  simp at hne
 omega
theorem V_set {l : List Int} (i : Nat) (x : Int) (h : i < l.length) : V (l.set i x) + 4294967296 ^ i * (rd l (i : Int)).toNat = V l + 4294967296 ^ i * x.toNat := by
 have h1 := V_take_drop l i (by omega)
 rw [drop_cons l i h, V_cons] at h1
 have h2 := V_take_drop (l.set i x) i (by rw [List.length_set]; omega)
 rw [List.drop_set, if_neg (by omega), Nat.sub_self, drop_cons l i h, List.set_cons_zero, V_cons, List.take_set, List.set_eq_of_length_le (l := l.take i) (by rw [List.length_take]; omega)] at h2
 rw [h1, h2, Nat.mul_add, Nat.mul_add]
 omega
theorem w64 {x : Int} (h : -9223372036854775808 ≤ x) (h' : x ≤ 9223372036854775807) : wrap64 x = x := by unfold wrap64; omega
theorem u64 {x : Int} (h : 0 ≤ x) (h' : x < 18446744073709551616) : IntKind.u64.wrap x = x := by rw [IntKind.wrap_u64]; omega
end Go.Proofs.YtjkcmnedolfkjaaGreat.Num
end
section
set_option linter.unusedVariables false
set_option linter.unusedSimpArgs false
namespace Go.Proofs.YtjkcmnedolfkjaaGreat.Num
open Go.RowKit Go.Proofs.YtjkcmnedolfkjaaGreatW.PrintWords Go.Proofs.YtjkcmnedolfkjaaGreatW.PrintMore Go.Proofs.YtjkcmnedolfkjaaGreat.PL

theorem used_loop (l : List Int) (hl : Limbs l) (hs : l.length < 70368744177664) (i : Nat) : i ≤ l.length → V (l.take i) = V l → Ev (fun k => nat_used.l0 k l (i : Int)) ((len (V l) : Nat) : Int) := by
 induction i with
 | zero =>
  intro _ he
  rw [List.take_zero, V_nil] at he
  refine Ev.step (f := fun k => some (0 : Int)) (fun k => by simp only [nat_used.l0]; rw [if_neg (by omega)]; rfl) ?_
  rw [← he, len_zero]
  exact Ev.now _
 | succ i ih =>
  intro hi he
  have hr := rd_nonneg hl (i : Int)
  have hw : wrap64 (((i + 1 : Nat) : Int) - 1) = (i : Int) := by rw [w64 (by omega) (by omega)]; omega
  have hv := V_take_succ l i (by omega)
  by_cases h0 : rd l (i : Int) = 0
  ·refine Ev.step (f := fun k => nat_used.l0 k l (i : Int)) (fun k => ?_) (ih (by omega) ?_)
   ·simp only [nat_used.l0]
    rw [hw, if_pos (by omega), if_pos (by omega), if_pos (by omega), if_pos h0]
   ·rw [h0] at hv
    simp at hv
    omega
  ·refine Ev.step (f := fun k => some ((i + 1 : Nat) : Int)) (fun k => ?_) ?_
   ·simp only [nat_used.l0]
    rw [hw, if_pos (by omega), if_pos (by omega), if_pos (by omega), if_neg h0]
   ·have h1 : len (V l) ≤ i + 1 := len_le.2 (by rw [← he]; have := V_lt (hl.take (i + 1)); rwa [List.length_take, Nat.min_eq_left hi] at this)
    have h2 : ¬ len (V l) ≤ i := fun h => by
     have := len_le.1 h
     rw [← he, hv] at this
     have h3 : 4294967296 ^ i * 1 ≤ 4294967296 ^ i * (rd l (i : Int)).toNat := Nat.mul_le_mul_left _ (by omega)
     omega
    rw [show len (V l) = i + 1 from by omega]
    exact Ev.now _
theorem used_tells {l : List Int} (hl : Limbs l) (hs : l.length < 70368744177664) : Ev (fun k => nat_used.f k l) ((len (V l) : Nat) : Int) := by
 refine Ev.congr (fun k => rfl) (used_loop l hl hs l.length (Nat.le_refl _) (by rw [List.take_length]))
theorem trim_tells {l : List Int} (hl : Limbs l) (hs : l.length < 70368744177664) : Ev (fun k => nat_Trim.f k l) (N (V l)) := by
 have hle := len_V hl
 refine Ev.bind (used_tells hl hs) ?_
 refine Ev.congr (f := fun _ => some (N (V l))) (fun k => ?_) (Ev.now _)
 rw [if_pos (by omega), if_pos (by rw [Int.toNat_natCast]; omega), Int.toNat_natCast, ← N_take hl]
 unfold splice
 rw [List.take_zero, List.nil_append, List.length_replicate, Nat.sub_zero, List.drop_eq_nil_of_le (by rw [List.length_replicate]; omega), List.append_nil]
theorem at_tells (l : List Int) (i : Nat) : nat_at.f l (i : Int) = some (rd l (i : Int)) := by
 unfold nat_at.f
 by_cases h : i < l.length
 ·rw [if_pos (by omega), if_pos (by omega)]
 ·rw [if_neg (by omega), rd_out l i (by omega)]
def cmpN (a b : Nat) : Int := if a < b then -1 else if b < a then 1 else 0
theorem compare_int (a b : Int) : cmp_Compare_int.f a b = some (if a < b then -1 else if b < a then 1 else 0) := by
 unfold cmp_Compare_int.f cmp_isNaN_int.f
 simp
 split
 ·rfl
 ·split <;> rfl
theorem compare_u32 (a b : Int) : cmp_Compare_uint32.f a b = some (if a < b then -1 else if b < a then 1 else 0) := by
 unfold cmp_Compare_uint32.f cmp_isNaN_uint32.f
 simp
 split
 ·rfl
 ·split <;> rfl
theorem cmp_loop (a b : List Int) (ha : Limbs a) (hb : Limbs b) (hsa : a.length < 1099511627776) (i : Nat) : i ≤ a.length → i ≤ b.length → Ev (fun k => nat_Cmp.l0 k a b ((i : Int) - 1)) (cmpN (V (a.take i)) (V (b.take i))) := by
 induction i with
 | zero =>
  intro _ _
  refine Ev.step (f := fun k => some (0 : Int)) (fun k => by simp only [nat_Cmp.l0]; rw [if_neg (by omega)]) ?_
  rw [List.take_zero, List.take_zero]
  exact Ev.now _
 | succ i ih =>
  intro h1 h2
  have ra := rd_nonneg ha (i : Int)
  have rb := rd_nonneg hb (i : Int)
  have va := V_take_succ a i (by omega)
  have vb := V_take_succ b i (by omega)
  have la := V_lt (ha.take i)
  rw [List.length_take, Nat.min_eq_left (by omega)] at la
  have lb := V_lt (hb.take i)
  rw [List.length_take, Nat.min_eq_left (by omega)] at lb
  have hx : ((i + 1 : Nat) : Int) - 1 = (i : Int) := by omega
  rw [hx]
  have key : ∀ x y : Nat, x < y → 4294967296 ^ i * x + 4294967296 ^ i ≤ 4294967296 ^ i * y := fun x y h => by rw [← Nat.mul_succ]; exact Nat.mul_le_mul_left _ h
  rcases Int.lt_trichotomy (rd a (i : Int)) (rd b (i : Int)) with h | h | h
  ·have hk := key (rd a (i : Int)).toNat (rd b (i : Int)).toNat (by omega)
   refine Ev.step (f := fun k => some (-1 : Int)) (fun k => ?_) ?_
   ·simp only [nat_Cmp.l0]
    rw [if_pos (by omega), if_pos (by omega), if_pos (by omega), if_pos (by omega), compare_u32, if_pos h, Option.bind_some, if_neg (by omega)]
   ·unfold cmpN
    rw [if_pos (by omega)]
    exact Ev.now _
  ·refine Ev.step (f := fun k => nat_Cmp.l0 k a b ((i : Int) - 1)) (fun k => ?_) ?_
   ·simp only [nat_Cmp.l0]
    rw [if_pos (by omega), if_pos (by omega), if_pos (by omega), if_pos (by omega), compare_u32, if_neg (by omega), if_neg (by omega), Option.bind_some, if_pos rfl, w64 (by omega) (by omega)]
   ·have := ih (by omega) (by omega)
    have e : cmpN (V (a.take (i + 1))) (V (b.take (i + 1))) = cmpN (V (a.take i)) (V (b.take i)) := by
     rw [va, vb, h]
     unfold cmpN
     simp only [Nat.add_lt_add_iff_right]
    rw [e]
    exact this
  ·have hk := key (rd b (i : Int)).toNat (rd a (i : Int)).toNat (by omega)
   refine Ev.step (f := fun k => some (1 : Int)) (fun k => ?_) ?_
   ·simp only [nat_Cmp.l0]
    rw [if_pos (by omega), if_pos (by omega), if_pos (by omega), if_pos (by omega), compare_u32, if_neg (by omega), if_pos h, Option.bind_some, if_neg (by omega)]
   ·unfold cmpN
    rw [if_neg (by omega), if_pos (by omega)]
    exact Ev.now _
theorem cmp_tells {a b : List Int} (ha : Limbs a) (hb : Limbs b) (hsa : a.length < 1099511627776) (hsb : b.length < 1099511627776) : Ev (fun k => nat_Cmp.f k a b) (cmpN (V a) (V b)) := by
 refine Ev.bind (used_tells ha (by omega)) (Ev.bind (used_tells hb (by omega)) ?_)
 have hla := len_V ha
 have hlb := len_V hb
 have la := lt_len (V a)
 have lb := lt_len (V b)
 rcases Nat.lt_trichotomy (len (V a)) (len (V b)) with h | h | h
 ·have h1 : V a < V b := Nat.lt_of_not_le fun hc => by have := len_mono hc; omega
  refine Ev.congr (f := fun _ => some (cmpN (V a) (V b))) (fun k => ?_) (Ev.now _)
  rw [compare_int, if_pos (by omega), Option.bind_some, if_neg (by omega)]
  unfold cmpN
  rw [if_pos h1]
 ·have := cmp_loop a b ha hb hsa (len (V a)) hla (by omega)
  have ea : V (a.take (len (V a))) = V a := by rw [V_take ha _ hla, Nat.mod_eq_of_lt la]
  have eb : V (b.take (len (V a))) = V b := by rw [h, V_take hb _ hlb, Nat.mod_eq_of_lt lb]
  rw [ea, eb] at this
  refine Ev.congr (fun k => ?_) this
  rw [compare_int, if_neg (by omega), if_neg (by omega), Option.bind_some, if_pos rfl, w64 (by omega) (by omega)]
 ·have h1 : V b < V a := Nat.lt_of_not_le fun hc => by have := len_mono hc; omega
  refine Ev.congr (f := fun _ => some (cmpN (V a) (V b))) (fun k => ?_) (Ev.now _)
  rw [compare_int, if_neg (by omega), if_pos (by omega), Option.bind_some, if_neg (by omega)]
  unfold cmpN
  rw [if_neg (by omega), if_pos h1]
theorem add32_tells {a b c : Int} (ha : 0 ≤ a ∧ a < 4294967296) (hb : 0 ≤ b ∧ b < 4294967296) (hc : 0 ≤ c ∧ c ≤ 1) : bits_Add32.f a b c = some ((a + b + c) % 4294967296, (a + b + c) / 4294967296) := by
 unfold bits_Add32.f
 rw [u64 (x := a) (by omega) (by omega), u64 (x := b) (by omega) (by omega), u64 (x := c) (by omega) (by omega), u64 (x := a + b) (by omega) (by omega), u64 (by omega) (by omega)]
 congr 2
 omega
theorem add_loop (a b : List Int) (ha : Limbs a) (hb : Limbs b) (n : Nat) (hn : n < 1099511627777) (d : Nat) : ∀ (i : Nat) (out : List Int) (c : Int), i + d = n → out.length = n → Limbs out → 0 ≤ c → c ≤ 1 →
  V (out.take i) + 4294967296 ^ i * c.toNat = V (a.take i) + V (b.take i) →
  ∃ out' : List Int, Limbs out' ∧ out'.length = n ∧ (∃ c' : Nat, V out' + 4294967296 ^ n * c' = V (a.take n) + V (b.take n)) ∧ Ev (fun k => nat_Add.l0 k a b out c (n : Int) (i : Int)) (N (V out')) := by
 induction d with
 | zero =>
  intro i out c hi ho hl h0 h1 he
  obtain rfl : i = n := by omega
  refine ⟨out, hl, ho, ⟨c.toNat, by rw [← he, List.take_of_length_le (by omega)]⟩, ?_⟩
  refine Ev.step (f := fun k => (nat_Trim.f k out).bind fun t => some t) (fun k => by simp only [nat_Add.l0]; rw [if_neg (by omega)]) (Ev.bind (trim_tells hl (by omega)) (Ev.now _))
 | succ d ih =>
  intro i out c hi ho hl h0 h1 he
  have ra := rd_nonneg ha (i : Int)
  have rb := rd_nonneg hb (i : Int)
  have hm : 0 ≤ (rd a (i : Int) + rd b (i : Int) + c) % 4294967296 := by omega
  have hs1 : Limbs (out.set i ((rd a (i : Int) + rd b (i : Int) + c) % 4294967296)) := hl.set i (by omega) (by omega)
  have hta : V (a.take (i + 1)) = V (a.take i) + 4294967296 ^ i * (rd a (i : Int)).toNat := by
   by_cases h : i < a.length
   ·exact V_take_succ a i h
   ·rw [rd_out a i (by omega), List.take_of_length_le (by omega), List.take_of_length_le (by omega)]; simp
  have htb : V (b.take (i + 1)) = V (b.take i) + 4294967296 ^ i * (rd b (i : Int)).toNat := by
   by_cases h : i < b.length
   ·exact V_take_succ b i h
   ·rw [rd_out b i (by omega), List.take_of_length_le (by omega), List.take_of_length_le (by omega)]; simp
  have hto : V ((out.set i ((rd a (i : Int) + rd b (i : Int) + c) % 4294967296)).take (i + 1)) = V (out.take i) + 4294967296 ^ i * ((rd a (i : Int) + rd b (i : Int) + c) % 4294967296).toNat := by
   rw [V_take_succ _ i (by rw [List.length_set]; omega), List.take_set, List.set_eq_of_length_le (l := out.take i) (by rw [List.length_take]; omega)]
   congr 2
   rw [rd_cast, List.getD_eq_getElem?_getD, List.getElem?_set_self (by omega)]
   rfl
  obtain ⟨out', p1, p2, p3, p4⟩ := ih (i + 1) (out.set i ((rd a (i : Int) + rd b (i : Int) + c) % 4294967296)) ((rd a (i : Int) + rd b (i : Int) + c) / 4294967296) (by omega) (by rw [List.length_set]; exact ho) hs1 (by omega) (by omega) (by
   rw [hto, hta, htb, Nat.pow_succ, Nat.mul_assoc, Nat.add_assoc, ← Nat.mul_add]
   have e : ((rd a (i : Int) + rd b (i : Int) + c) % 4294967296).toNat + 4294967296 * ((rd a (i : Int) + rd b (i : Int) + c) / 4294967296).toNat = (rd a (i : Int)).toNat + (rd b (i : Int)).toNat + c.toNat := by omega
   rw [e, Nat.mul_add, Nat.mul_add]
   omega)
  refine ⟨out', p1, p2, p3, Ev.step (fun k => ?_) p4⟩
  simp only [nat_Add.l0]
  rw [if_pos (by omega), at_tells, at_tells, Option.bind_some, Option.bind_some, add32_tells ra rb ⟨h0, h1⟩, Option.bind_some, if_pos (by omega), if_pos (by omega), Int.toNat_natCast, w64 (by omega) (by omega)]
  rfl
theorem mx_cast (a b : Nat) : mx (a : Int) (b : Int) = ((max a b : Nat) : Int) := by
 unfold mx
 split <;> omega
theorem add_tells {a b : List Int} (ha : Limbs a) (hb : Limbs b) (hsa : a.length < 1099511627776) (hsb : b.length < 1099511627776) : Ev (fun k => nat_Add.f k a b) (N (V a + V b)) := by
 have hla := len_V ha
 have hlb := len_V hb
 have la := lt_len (V a)
 have lb := lt_len (V b)
 refine Ev.bind (used_tells ha (by omega)) (Ev.bind (used_tells hb (by omega)) ?_)
 have hn : wrap64 (mx ((len (V a) : Nat) : Int) ((len (V b) : Nat) : Int) + 1) = ((max (len (V a)) (len (V b)) + 1 : Nat) : Int) := by
  rw [mx_cast, w64 (by omega) (by omega)]
  omega
 generalize hN : max (len (V a)) (len (V b)) + 1 = n at hn
 have pa : V (a.take n) = V a := by
  by_cases h : n ≤ a.length
  ·rw [V_take ha n h, Nat.mod_eq_of_lt (Nat.lt_of_lt_of_le la (Nat.pow_le_pow_right (by omega) (by omega)))]
  ·rw [List.take_of_length_le (by omega)]
 have pb : V (b.take n) = V b := by
  by_cases h : n ≤ b.length
  ·rw [V_take hb n h, Nat.mod_eq_of_lt (Nat.lt_of_lt_of_le lb (Nat.pow_le_pow_right (by omega) (by omega)))]
  ·rw [List.take_of_length_le (by omega)]
 obtain ⟨out', p1, p2, ⟨c', p3⟩, p4⟩ := add_loop a b ha hb n (by omega) n 0 (splice (List.replicate n 0) 0 a) 0 (by omega) (by rw [splice_length, List.length_replicate]) ((Limbs.rep n).splice ha 0) (by omega) (by omega) (by simp [V_nil])
 have hsum : V out' = V a + V b := by
  rw [pa, pb] at p3
  have h1 : V a < 4294967296 ^ (n - 1) := Nat.lt_of_lt_of_le la (Nat.pow_le_pow_right (by omega) (by omega))
  have h2 : V b < 4294967296 ^ (n - 1) := Nat.lt_of_lt_of_le lb (Nat.pow_le_pow_right (by omega) (by omega))
  have h3 : 4294967296 ^ n = 4294967296 ^ (n - 1) * 4294967296 := by obtain ⟨m, rfl⟩ : ∃ m, n = m + 1 := ⟨n - 1, by omega⟩; rw [Nat.add_sub_cancel, Nat.pow_succ]
  rcases Nat.eq_zero_or_pos c' with hz | hz
  ·rw [hz, Nat.mul_zero, Nat.add_zero] at p3
   exact p3
  ·have h4 : 4294967296 ^ n * 1 ≤ 4294967296 ^ n * c' := Nat.mul_le_mul_left _ hz
   generalize 4294967296 ^ n * c' = R at *
   rw [h3] at h4
   generalize 4294967296 ^ (n - 1) = P at *
   omega
 rw [hsum, Int.natCast_zero] at p4
 refine Ev.congr (fun k => ?_) p4
 rw [hn, if_pos (by omega), if_pos (by rw [Int.toNat_natCast]; omega), Int.toNat_natCast, Option.bind_some, List.length_replicate]
theorem nat_of_tells {v : Int} (h0 : 0 ≤ v) (h1 : v < 18446744073709551616) : Ev (fun k => nat_Of.f k v) (N v.toNat) := by
 have hl : Limbs [v % 4294967296, v / 4294967296 % 4294967296] := Limbs.cons (by omega) (by omega) (Limbs.one (by omega) (by omega))
 have := trim_tells hl (by simp)
 rw [V_cons, V_cons, V_nil, show (v % 4294967296).toNat + 4294967296 * ((v / 4294967296 % 4294967296).toNat + 4294967296 * 0) = v.toNat from by omega] at this
 exact Ev.bind this (Ev.now _)
theorem bit31 (x : Nat) (h : x < 4294967296) : x.testBit 31 = decide (2147483648 ≤ x) := by
 rw [Nat.testBit_eq_decide_div_mod_eq, decide_eq_decide]
 omega
theorem div31 (x : Nat) (h : x < 4294967296) : x / 2147483648 = (x.testBit 31).toNat := by
 rw [bit31 x h]
 by_cases hx : 2147483648 ≤ x
 ·rw [decide_eq_true hx]; show _ = 1; omega
 ·rw [decide_eq_false hx]; show _ = 0; omega
theorem borrow_nat (a b c d : Nat) (ha : a < 4294967296) (hb : b < 4294967296) (hc : c ≤ 1) (hd : d < 4294967296) (he : (d : Int) = ((a : Int) - b - c) % 4294967296) :
  (((4294967295 ^^^ a) &&& b) ||| ((4294967295 ^^^ (a ^^^ b)) &&& d)) / 2147483648 = if a < b + c then 1 else 0 := by
 have hl : (((4294967295 ^^^ a) &&& b) ||| ((4294967295 ^^^ (a ^^^ b)) &&& d)) < 2 ^ 32 :=
  Nat.or_lt_two_pow (Nat.lt_of_le_of_lt Nat.and_le_right hb) (Nat.lt_of_le_of_lt Nat.and_le_right hd)
 rw [div31 _ hl]
 simp only [Nat.testBit_or, Nat.testBit_and, Nat.testBit_xor, bit31 a ha, bit31 b hb, bit31 d hd, show Nat.testBit 4294967295 31 = true from by decide]
 by_cases h1 : 2147483648 ≤ a <;> by_cases h2 : 2147483648 ≤ b <;> by_cases h3 : 2147483648 ≤ d <;> simp [h1, h2, h3] <;> omega
theorem sub32_tells {a b c : Int} (ha : 0 ≤ a ∧ a < 4294967296) (hb : 0 ≤ b ∧ b < 4294967296) (hc : 0 ≤ c ∧ c ≤ 1) : bits_Sub32.f a b c = some ((a - b - c) % 4294967296, if a < b + c then 1 else 0) := by
 obtain ⟨x, rfl⟩ := Int.eq_ofNat_of_zero_le ha.1
 obtain ⟨y, rfl⟩ := Int.eq_ofNat_of_zero_le hb.1
 obtain ⟨z, rfl⟩ := Int.eq_ofNat_of_zero_le hc.1
 have hd : (((x : Int) - y) % 4294967296 - z) % 4294967296 = ((x : Int) - y - z) % 4294967296 := by omega
 obtain ⟨d, hde⟩ := Int.eq_ofNat_of_zero_le (show 0 ≤ ((x : Int) - y - z) % 4294967296 by omega)
 have hdl : d < 4294967296 := by omega
 unfold bits_Sub32.f
 rw [hd, hde]
 have e1 : Go.bits .xor .u32 4294967295 (x : Int) = ((4294967295 ^^^ x : Nat) : Int) := u32_xor_nat 4294967295 x (by omega) (by omega)
 have e2 : Go.bits .xor .u32 (x : Int) (y : Int) = ((x ^^^ y : Nat) : Int) := u32_xor_nat x y (by omega) (by omega)
 have l1 : 4294967295 ^^^ x < 4294967296 := Nat.xor_lt_two_pow (n := 32) (by omega) (by omega)
 have l2 : x ^^^ y < 4294967296 := Nat.xor_lt_two_pow (n := 32) (by omega) (by omega)
 have l3 : 4294967295 ^^^ (x ^^^ y) < 4294967296 := Nat.xor_lt_two_pow (n := 32) (by omega) l2
 have e3 : Go.bits .xor .u32 4294967295 ((x ^^^ y : Nat) : Int) = ((4294967295 ^^^ (x ^^^ y) : Nat) : Int) := u32_xor_nat 4294967295 _ (by omega) l2
 have e4 := u32_and_nat (4294967295 ^^^ x) y l1 (by omega)
 have e5 := u32_and_nat (4294967295 ^^^ (x ^^^ y)) d l3 hdl
 have l4 : (4294967295 ^^^ x) &&& y < 4294967296 := Nat.lt_of_le_of_lt Nat.and_le_right (by omega)
 have l5 : (4294967295 ^^^ (x ^^^ y)) &&& d < 4294967296 := Nat.lt_of_le_of_lt Nat.and_le_right hdl
 have e6 := u32_or_nat _ _ l4 l5
 rw [e1, e2, e3, e4, e5, e6]
 have hb := borrow_nat x y z d (by omega) (by omega) (by omega) hdl hde.symm
 congr 2
 rw [show (2147483648 : Int) = ((2147483648 : Nat) : Int) from rfl, ← Int.natCast_ediv, hb]
 by_cases h : x < y + z
 ·rw [if_pos h, if_pos (by omega)]; rfl
 ·rw [if_neg h, if_neg (by omega)]; rfl
theorem sub_loop (a b : List Int) (ha : Limbs a) (hb : Limbs b) (n : Nat) (hn : n < 1099511627777) (d : Nat) : ∀ (i : Nat) (out : List Int) (c : Int), i + d = n → out.length = n → Limbs out → 0 ≤ c → c ≤ 1 → (∀ j : Nat, i ≤ j → j < n → rd out (j : Int) = rd a (j : Int)) →
  (V (out.take i) : Int) - 4294967296 ^ i * c = V (a.take i) - V (b.take i) →
  ∃ out' : List Int, Limbs out' ∧ out'.length = n ∧ (∃ c' : Int, 0 ≤ c' ∧ c' ≤ 1 ∧ (V out' : Int) - 4294967296 ^ n * c' = V (a.take n) - V (b.take n)) ∧ Ev (fun k => nat_Sub.l0 k b out c (n : Int) (i : Int)) (N (V out'), true) := by
 induction d with
 | zero =>
  intro i out c hi ho hl h0 h1 _ he
  obtain rfl : i = n := by omega
  refine ⟨out, hl, ho, ⟨c, h0, h1, by rw [← he, List.take_of_length_le (by omega)]⟩, ?_⟩
  refine Ev.step (f := fun k => (nat_Trim.f k out).bind fun t => some (t, true)) (fun k => by simp only [nat_Sub.l0]; rw [if_neg (by omega)]) (Ev.bind (trim_tells hl (by omega)) (Ev.now _))
 | succ d ih =>
  intro i out c hi ho hl h0 h1 hsame he
  have ra := rd_nonneg ha (i : Int)
  have rb := rd_nonneg hb (i : Int)
  have ro := hsame i (Nat.le_refl _) (by omega)
  have hs1 : Limbs (out.set i ((rd a (i : Int) - rd b (i : Int) - c) % 4294967296)) := hl.set i (by omega) (by omega)
  have hta : V (a.take (i + 1)) = V (a.take i) + 4294967296 ^ i * (rd a (i : Int)).toNat := by
   by_cases h : i < a.length
   ·exact V_take_succ a i h
   ·rw [rd_out a i (by omega), List.take_of_length_le (by omega), List.take_of_length_le (by omega)]; simp
  have htb : V (b.take (i + 1)) = V (b.take i) + 4294967296 ^ i * (rd b (i : Int)).toNat := by
   by_cases h : i < b.length
   ·exact V_take_succ b i h
   ·rw [rd_out b i (by omega), List.take_of_length_le (by omega), List.take_of_length_le (by omega)]; simp
  have hto : V ((out.set i ((rd a (i : Int) - rd b (i : Int) - c) % 4294967296)).take (i + 1)) = V (out.take i) + 4294967296 ^ i * ((rd a (i : Int) - rd b (i : Int) - c) % 4294967296).toNat := by
   rw [V_take_succ _ i (by rw [List.length_set]; omega), List.take_set, List.set_eq_of_length_le (l := out.take i) (by rw [List.length_take]; omega)]
   congr 2
   rw [rd_cast, List.getD_eq_getElem?_getD, List.getElem?_set_self (by omega)]
   rfl
  obtain ⟨out', p1, p2, p3, p4⟩ := ih (i + 1) (out.set i ((rd a (i : Int) - rd b (i : Int) - c) % 4294967296)) (if rd a (i : Int) < rd b (i : Int) + c then 1 else 0) (by omega) (by rw [List.length_set]; exact ho) hs1 (by split <;> omega) (by split <;> omega)
   (by
    intro j hj hjn
    rw [← hsame j (by omega) hjn]
    simp only [rd_cast, List.getD_eq_getElem?_getD]
    rw [List.getElem?_set_ne (by omega)]) (by
   rw [hto, hta, htb, Int.pow_succ]
   have e : (((rd a (i : Int) - rd b (i : Int) - c) % 4294967296).toNat : Int) - 4294967296 * (if rd a (i : Int) < rd b (i : Int) + c then 1 else 0) = ((rd a (i : Int)).toNat : Int) - ((rd b (i : Int)).toNat : Int) - c := by split <;> omega
   simp only [Int.natCast_add, Int.natCast_mul, Int.natCast_pow]
   have e2 := congrArg (fun z : Int => (4294967296 : Int) ^ i * z) e
   simp only [Int.mul_sub, ← Int.mul_assoc] at e2
   rw [show ((4294967296 : Nat) : Int) = 4294967296 from rfl]
   generalize (4294967296 : Int) ^ i = P at *
   generalize P * (((rd a (i : Int) - rd b (i : Int) - c) % 4294967296).toNat : Int) = X1 at *
   generalize P * 4294967296 * (if rd a (i : Int) < rd b (i : Int) + c then 1 else 0) = X2 at *
   generalize P * ((rd a (i : Int)).toNat : Int) = X3 at *
   generalize P * ((rd b (i : Int)).toNat : Int) = X4 at *
   generalize P * c = X5 at *
   omega)
  refine ⟨out', p1, p2, p3, Ev.step (fun k => ?_) p4⟩
  simp only [nat_Sub.l0]
  rw [if_pos (by omega), if_pos (by omega), if_pos (by omega), at_tells, Option.bind_some, ro, sub32_tells ra rb ⟨h0, h1⟩, Option.bind_some, Int.toNat_natCast, w64 (by omega) (by omega)]
  rfl
theorem sub_tells {a b : List Int} (ha : Limbs a) (hb : Limbs b) (hsa : a.length < 1099511627776) (hsb : b.length < 1099511627776) : Ev (fun k => nat_Sub.f k a b) (if V a < V b then ([], false) else (N (V a - V b), true)) := by
 have hla := len_V ha
 have la := lt_len (V a)
 refine Ev.bind (cmp_tells ha hb hsa hsb) ?_
 by_cases h : V a < V b
 ·rw [if_pos h]
  refine Ev.congr (f := fun _ => some ([], false)) (fun k => ?_) (Ev.now _)
  rw [if_pos (by unfold cmpN; rw [if_pos h]; omega)]
 ·rw [if_neg h]
  have hc : ¬ cmpN (V a) (V b) < 0 := by unfold cmpN; rw [if_neg h]; split <;> omega
  refine Ev.congr (f := fun k => (nat_Trim.f k a).bind fun t => nat_Sub.l0 k b t 0 (t.length : Int) 0) (fun k => by rw [if_neg hc]) (Ev.bind (trim_tells ha (by omega)) ?_)
  have nl := N_limbs (V a)
  obtain ⟨out', p1, p2, ⟨c', q0, q1, q2⟩, p4⟩ := sub_loop (N (V a)) b nl hb (len (V a)) (by omega) (len (V a)) 0 (N (V a)) 0 (by omega) rfl nl (by omega) (by omega) (fun _ _ _ => rfl) (by simp [V_nil])
  have hb2 : V (b.take (len (V a))) = V b := by
   by_cases hx : len (V a) ≤ b.length
   ·rw [V_take hb _ hx, Nat.mod_eq_of_lt (Nat.lt_of_le_of_lt (Nat.le_of_not_lt h) la)]
   ·rw [List.take_of_length_le (by omega)]
  rw [hb2, List.take_of_length_le (Nat.le_of_eq (N_length _)), V_N] at q2
  have lo := V_lt p1
  rw [p2] at lo
  have hv : V out' = V a - V b := by
   have q3 : c' = 0 ∨ c' = 1 := by omega
   rcases q3 with rfl | rfl
   ·simp at q2; omega
   ·rw [Int.mul_one] at q2
    have : ((4294967296 ^ len (V a) : Nat) : Int) = (4294967296 : Int) ^ len (V a) := by simp
    generalize 4294967296 ^ len (V a) = P at *
    generalize (4294967296 : Int) ^ len (V a) = Q at *
    omega
  rw [hv, Int.natCast_zero] at p4
  exact p4
theorem trim1_loop (l : List Int) (hl : Limbs l) (hs : l.length < 35184372088832) (i : Nat) : i ≤ l.length → V (l.take i) = V l → Ev (fun k => steelyardref01_Trim.l0 k l (i : Int)) (N (V l)) := by
 induction i with
 | zero =>
  intro _ he
  rw [List.take_zero, V_nil] at he
  refine Ev.step (f := fun k => some ([] : List Int)) (fun k => by simp only [steelyardref01_Trim.l0]; rw [if_neg (by omega), Option.bind_some, if_pos (by omega), if_pos (by omega)]; simp) ?_
  rw [← he, N_zero]
  exact Ev.now _
 | succ i ih =>
  intro hi he
  have hr := rd_nonneg hl (i : Int)
  have hw : wrap64 (((i + 1 : Nat) : Int) - 1) = (i : Int) := by rw [w64 (by omega) (by omega)]; omega
  have hv := V_take_succ l i (by omega)
  by_cases h0 : rd l (i : Int) = 0
  ·refine Ev.step (f := fun k => steelyardref01_Trim.l0 k l (i : Int)) (fun k => ?_) (ih (by omega) ?_)
   ·simp only [steelyardref01_Trim.l0]
    rw [hw, if_pos (by omega), if_pos (by omega), if_pos (by omega), if_pos h0]
   ·rw [h0] at hv
    simp at hv
    omega
  ·have hlen : len (V l) = i + 1 := by
    have h1 : len (V l) ≤ i + 1 := len_le.2 (by rw [← he]; have := V_lt (hl.take (i + 1)); rwa [List.length_take, Nat.min_eq_left hi] at this)
    have h2 : ¬ len (V l) ≤ i := fun h => by
     have := len_le.1 h
     rw [← he, hv] at this
     have h3 : 4294967296 ^ i * 1 ≤ 4294967296 ^ i * (rd l (i : Int)).toNat := Nat.mul_le_mul_left _ (by omega)
     generalize 4294967296 ^ i * (rd l (i : Int)).toNat = X at *
     generalize 4294967296 ^ i = P at *
     omega
    omega
   refine Ev.step (f := fun k => some (N (V l))) (fun k => ?_) (Ev.now _)
   simp only [steelyardref01_Trim.l0]
   rw [hw, if_pos (by omega), if_pos (by omega), if_pos (by omega), if_neg h0, Option.bind_some, if_pos (by omega), if_pos (by omega), if_pos (by rw [List.length_take]; simp; omega), List.nil_append, Int.toNat_natCast, ← hlen, N_take hl]
theorem trim1_tells {l : List Int} (hl : Limbs l) (hs : l.length < 35184372088832) : Ev (fun k => steelyardref01_Trim.f k l) (N (V l)) :=
 Ev.congr (fun k => rfl) (trim1_loop l hl hs l.length (Nat.le_refl _) (by rw [List.take_length]))
theorem at1_tells {l : List Int} (hl : Limbs l) (i : Nat) : steelyardref01_at.f l (i : Int) = some (rd l (i : Int)) := by
 have := rd_nonneg hl (i : Int)
 unfold steelyardref01_at.f
 by_cases h : i < l.length
 ·rw [if_neg (by omega), if_pos (by omega), if_pos (by omega), u64 (by omega) (by omega)]
 ·rw [if_pos (by omega), rd_out l i (by omega)]
theorem cmp1_loop (a b : List Int) (ha : Limbs a) (hb : Limbs b) (i : Nat) (hi : i < 1099511627777) : Ev (fun k => steelyardref01_Cmp.l0 k a b ((i : Int) - 1)) (cmpN (V (a.take i)) (V (b.take i))) := by
 induction i with
 | zero =>
  refine Ev.step (f := fun k => some (0 : Int)) (fun k => by simp only [steelyardref01_Cmp.l0]; rw [if_neg (by omega)]) ?_
  rw [List.take_zero, List.take_zero]
  exact Ev.now _
 | succ i ih =>
  have ra := rd_nonneg ha (i : Int)
  have rb := rd_nonneg hb (i : Int)
  have va : V (a.take (i + 1)) = V (a.take i) + 4294967296 ^ i * (rd a (i : Int)).toNat := by
   by_cases h : i < a.length
   ·exact V_take_succ a i h
   ·rw [rd_out a i (by omega), List.take_of_length_le (by omega), List.take_of_length_le (by omega)]; simp
  have vb : V (b.take (i + 1)) = V (b.take i) + 4294967296 ^ i * (rd b (i : Int)).toNat := by
   by_cases h : i < b.length
   ·exact V_take_succ b i h
   ·rw [rd_out b i (by omega), List.take_of_length_le (by omega), List.take_of_length_le (by omega)]; simp
  have la : V (a.take i) < 4294967296 ^ i := Nat.lt_of_lt_of_le (V_lt (ha.take i)) (Nat.pow_le_pow_right (by omega) (by rw [List.length_take]; omega))
  have lb : V (b.take i) < 4294967296 ^ i := Nat.lt_of_lt_of_le (V_lt (hb.take i)) (Nat.pow_le_pow_right (by omega) (by rw [List.length_take]; omega))
  have hx : ((i + 1 : Nat) : Int) - 1 = (i : Int) := by omega
  rw [hx]
  have key : ∀ x y : Nat, x < y → 4294967296 ^ i * x + 4294967296 ^ i ≤ 4294967296 ^ i * y := fun x y h => by rw [← Nat.mul_succ]; exact Nat.mul_le_mul_left _ h
  rcases Int.lt_trichotomy (rd a (i : Int)) (rd b (i : Int)) with h | h | h
  ·have hk := key (rd a (i : Int)).toNat (rd b (i : Int)).toNat (by omega)
   refine Ev.step (f := fun k => some (-1 : Int)) (fun k => ?_) ?_
   ·simp only [steelyardref01_Cmp.l0]
    rw [if_pos (by omega), at1_tells ha, at1_tells hb, Option.bind_some, Option.bind_some, if_pos h]
   ·rw [va, vb]
    unfold cmpN
    generalize 4294967296 ^ i * (rd a (i : Int)).toNat = X at *
    generalize 4294967296 ^ i * (rd b (i : Int)).toNat = Y at *
    generalize 4294967296 ^ i = P at *
    rw [if_pos (by omega)]
    exact Ev.now _
  ·refine Ev.step (f := fun k => steelyardref01_Cmp.l0 k a b ((i : Int) - 1)) (fun k => ?_) ?_
   ·simp only [steelyardref01_Cmp.l0]
    rw [if_pos (by omega), at1_tells ha, at1_tells hb, Option.bind_some, Option.bind_some, if_neg (by omega), Option.bind_some, Option.bind_some, if_neg (by omega), w64 (by omega) (by omega)]
   ·have := ih (by omega)
    have e : cmpN (V (a.take (i + 1))) (V (b.take (i + 1))) = cmpN (V (a.take i)) (V (b.take i)) := by
     rw [va, vb, h]
     unfold cmpN
     simp only [Nat.add_lt_add_iff_right]
    rw [e]
    exact this
  ·have hk := key (rd b (i : Int)).toNat (rd a (i : Int)).toNat (by omega)
   refine Ev.step (f := fun k => some (1 : Int)) (fun k => ?_) ?_
   ·simp only [steelyardref01_Cmp.l0]
    rw [if_pos (by omega), at1_tells ha, at1_tells hb, Option.bind_some, Option.bind_some, if_neg (by omega), Option.bind_some, Option.bind_some, if_pos h]
   ·rw [va, vb]
    unfold cmpN
    generalize 4294967296 ^ i * (rd a (i : Int)).toNat = X at *
    generalize 4294967296 ^ i * (rd b (i : Int)).toNat = Y at *
    generalize 4294967296 ^ i = P at *
    rw [if_neg (by omega), if_pos (by omega)]
    exact Ev.now _
theorem cmp1_tells {a b : List Int} (ha : Limbs a) (hb : Limbs b) (hsa : a.length < 1099511627776) (hsb : b.length < 1099511627776) : Ev (fun k => steelyardref01_Cmp.f k a b) (cmpN (V a) (V b)) := by
 have := cmp1_loop a b ha hb (max a.length b.length) (by omega)
 rw [List.take_of_length_le (by omega), List.take_of_length_le (by omega)] at this
 refine Ev.congr (fun k => ?_) this
 unfold steelyardref01_Cmp.f
 rw [mx_cast, w64 (by omega) (by omega)]
structure Hd (p : Prop) : Prop where
 out : p
theorem rd_set_self (l : List Int) (i : Nat) (x : Int) (h : i < l.length) : rd (l.set i x) (i : Int) = x := by
 rw [rd_cast, List.getD_eq_getElem?_getD, List.getElem?_set_self h]
 rfl
theorem rd_set_ne (l : List Int) (i j : Nat) (x : Int) (h : i ≠ j) : rd (l.set i x) (j : Int) = rd l (j : Int) := by
 simp only [rd_cast, List.getD_eq_getElem?_getD]
 rw [List.getElem?_set_ne h]
theorem V_take_set (l : List Int) (i : Nat) (x : Int) (h : i < l.length) : V ((l.set i x).take (i + 1)) = V (l.take i) + 4294967296 ^ i * x.toNat := by
 rw [V_take_succ _ i (by rw [List.length_set]; exact h), List.take_set, List.set_eq_of_length_le (l := l.take i) (by rw [List.length_take]; omega), rd_set_self l i x h]
theorem V_take_succ' (l : List Int) (i : Nat) : V (l.take (i + 1)) = V (l.take i) + 4294967296 ^ i * (rd l (i : Int)).toNat := by
 by_cases h : i < l.length
 ·exact V_take_succ l i h
 ·rw [rd_out l i (by omega), List.take_of_length_le (by omega), List.take_of_length_le (by omega)]; simp
theorem row_loop (b : List Int) (hb : Limbs b) (a : List Int) (out : List Int) (x : Int) (hx0 : 0 ≤ x) (hx1 : x < 4294967296) (i la : Nat) (hbl : b.length < 1099511627776) (hi : i ≤ out.length) (row0 : List Int) (h0 : row0.length = b.length + 1) (hr0 : Limbs row0) (res : List Int)
  (hgo : ∀ row' : List Int, Limbs row' → row'.length = b.length + 1 → (∃ c : Nat, V row' + 4294967296 ^ (b.length + 1) * c = V row0 + x.toNat * V b) → Ev (fun k => mul_Of.l0 k b (splice out i row') a (la : Int) (wrap64 ((i : Int) + 1))) res) (d : Nat) :
  ∀ (j : Nat) (row : List Int) (c : Int), j + d = b.length + 1 → row.length = b.length + 1 → Limbs row → 0 ≤ c → c < 4294967296 → (∀ q : Nat, j ≤ q → q < b.length + 1 → rd row (q : Int) = rd row0 (q : Int)) →
  V (row.take j) + 4294967296 ^ j * c.toNat = V (row0.take j) + x.toNat * V (b.take j) →
  Ev (fun k => mul_Of.l1 k b out (i : Int) x row c a (la : Int) (i : Int) ((b.length + 1 : Nat) : Int) (j : Int)) res := by
 induction d with
 | zero =>
  intro j row c hj hl hr hc0 hc1 _ he
  obtain rfl : j = b.length + 1 := by omega
  rw [List.take_of_length_le (by omega), List.take_of_length_le (by omega), List.take_of_length_le (by omega)] at he
  refine Ev.step (fun k => ?_) (hgo row hr hl ⟨c.toNat, he⟩)
  simp only [mul_Of.l1]
  rw [if_neg (by omega), if_pos (by omega), if_pos (by omega), Int.toNat_natCast]
 | succ d ih =>
  intro j row c hj hl hr hc0 hc1 hsame he
  have rr := rd_nonneg hr0 (j : Int)
  have rb := rd_nonneg hb (j : Int)
  have ro := hsame j (Nat.le_refl _) (by omega)
  have hxb0 : 0 ≤ x * rd b (j : Int) := Int.mul_nonneg hx0 rb.1
  have hxb : x * rd b (j : Int) ≤ 4294967295 * 4294967295 := Int.mul_le_mul (by omega) (by omega) rb.1 (by omega)
  have hbt := V_take_succ' b j
  have hrt := V_take_succ' row0 j
  have pw := Nat.pow_succ (n := 4294967296) (m := j)
  -- the number that this place comes to
  have step : ∀ s : Int, 0 ≤ s → s < 18446744073709551616 → s = c + x * rd b (j : Int) + rd row0 (j : Int) →
    Ev (fun k => mul_Of.l1 k b out (i : Int) x (row.set j (s % 4294967296)) (s / 4294967296) a (la : Int) (i : Int) ((b.length + 1 : Nat) : Int) (wrap64 ((j : Int) + 1))) res := by
   intro s hs0 hs1 hs
   have := ih (j + 1) (row.set j (s % 4294967296)) (s / 4294967296) (by omega) (by rw [List.length_set]; exact hl) (hr.set j (by omega) (by omega)) (by omega) (by omega)
    (fun q hq hqn => by rw [rd_set_ne _ _ _ _ (by omega)]; exact hsame q (by omega) hqn) (by
    rw [V_take_set row j _ (by omega), hrt, hbt, pw, Nat.mul_assoc, Nat.add_assoc, ← Nat.mul_add]
    have e : (s % 4294967296).toNat + 4294967296 * (s / 4294967296).toNat = c.toNat + x.toNat * (rd b (j : Int)).toNat + (rd row0 (j : Int)).toNat := by
     have h1 : ((x.toNat * (rd b (j : Int)).toNat : Nat) : Int) = x * rd b (j : Int) := by rw [Int.natCast_mul, Int.toNat_of_nonneg hx0, Int.toNat_of_nonneg rb.1]
     omega
    rw [e, Nat.mul_add, Nat.mul_add, Nat.mul_add, Nat.mul_left_comm x.toNat]
    omega)
   rw [w64 (by omega) (by omega)]
   exact this
  by_cases hjb : j < b.length
  ·refine Ev.step (fun k => ?_) (step (c + x * rd b (j : Int) + rd row0 (j : Int)) (by omega) (by omega) rfl)
   simp only [mul_Of.l1]
   rw [if_pos (by omega), if_pos (by omega), if_pos (by omega), if_pos (by omega), ro, Int.toNat_natCast, u64 hx0 (by omega), u64 rb.1 (by omega), u64 hxb0 (by omega), u64 (x := c + x * rd b (j : Int)) (by omega) (by omega), u64 rr.1 (by omega), u64 (by omega) (by omega)]
  ·have hz : rd b (j : Int) = 0 := rd_out b j (by omega)
   refine Ev.step (fun k => ?_) (step (c + rd row0 (j : Int)) (by omega) (by omega) (by rw [hz, Int.mul_zero]; omega))
   simp only [mul_Of.l1]
   rw [if_pos (by omega), if_neg (by omega), if_pos (by omega), if_pos (by omega), ro, Int.toNat_natCast, u64 rr.1 (by omega), u64 (by omega) (by omega)]
theorem V_splice {xs ys : List Int} (i : Nat) (h : i + ys.length ≤ xs.length) : V (splice xs i ys) = V (xs.take i) + 4294967296 ^ i * V ys + 4294967296 ^ (i + ys.length) * V (xs.drop (i + ys.length)) := by
 unfold splice
 rw [List.take_of_length_le (l := ys) (by omega), V_append, V_append, List.length_take, Nat.min_eq_left (by omega), Nat.mul_add, Nat.pow_add, Nat.mul_assoc, Nat.add_assoc]
theorem mul_loop (a b : List Int) (ha : Limbs a) (hb : Limbs b) (hal : a.length < 1099511627776) (hbl : b.length < 1099511627776) (d : Nat) :
  ∀ (i : Nat) (out : List Int), i + d = a.length → out.length = a.length + b.length → Limbs out → V out = V (a.take i) * V b →
  Ev (fun k => mul_Of.l0 k b out a (a.length : Int) (i : Int)) (N (V a * V b)) := by
 induction d with
 | zero =>
  intro i out hi hl ho he
  obtain rfl : i = a.length := by omega
  rw [List.take_length] at he
  rw [← he]
  exact Ev.step (f := fun k => (nat_Trim.f k out).bind fun t => some t) (fun k => by simp only [mul_Of.l0]; rw [if_neg (by omega)]) (Ev.bind (trim_tells ho (by omega)) (Ev.now _))
 | succ d ih =>
  intro i out hi hl ho he
  have ra := rd_nonneg ha (i : Int)
  have hVb := V_lt hb
  have hVa := V_lt (ha.take i)
  rw [List.length_take, Nat.min_eq_left (by omega)] at hVa
  replace hVa := Hd.mk hVa
  replace hVb := Hd.mk hVb
  have hVo : Hd (V out < 4294967296 ^ i * 4294967296 ^ b.length) := by
   refine ⟨?_⟩
   rw [he]
   by_cases hz : V b = 0
   ·rw [hz, Nat.mul_zero]; exact Nat.mul_pos (Nat.pow_pos (by omega)) (Nat.pow_pos (by omega))
   ·exact Nat.mul_lt_mul'' hVa.out hVb.out
  have hdrop : Hd (V (out.drop i) < 4294967296 ^ b.length) := by
   refine ⟨?_⟩
   rw [V_drop ho i (by omega)]
   exact Nat.div_lt_of_lt_mul hVo.out
  have hdl : (out.drop i).length = a.length + b.length - i := by rw [List.length_drop, hl]
  have hw : Hd (wrap64 ((b.length : Int) + 1) = ((b.length + 1 : Nat) : Int)) := by refine ⟨?_⟩; rw [w64 (by omega) (by omega)]; rfl
  have hrow0 : splice (List.replicate (b.length + 1) (0 : Int)) 0 (out.drop i) = (out.drop i).take (b.length + 1) := by
   unfold splice
   rw [List.take_zero, List.nil_append, List.length_replicate, Nat.sub_zero, List.drop_replicate, show b.length + 1 - (0 + (out.drop i).length) = 0 from by omega, List.replicate_zero, List.append_nil]
  have hV0 : V ((out.drop i).take (b.length + 1)) = V (out.drop i) := by
   rw [V_take (ho.drop i) _ (by omega), Nat.mod_eq_of_lt (Nat.lt_of_lt_of_le hdrop.out (Nat.pow_le_pow_right (by omega) (by omega)))]
  have hrest : V (out.drop (i + (b.length + 1))) = 0 := by
   rw [V_drop ho _ (by omega)]
   apply Nat.div_eq_of_lt
   rw [Nat.pow_add]
   exact Nat.lt_of_lt_of_le hVo.out (Nat.mul_le_mul_left _ (Nat.pow_le_pow_right (by omega) (by omega)))
  have key := row_loop b hb a out (rd a (i : Int)) ra.1 ra.2 i a.length hbl (by omega) ((out.drop i).take (b.length + 1)) (by rw [List.length_take]; omega) ((ho.drop i).take _) (N (V a * V b)) (fun row' hr' hl' ⟨c, hc⟩ => by
   rw [hV0] at hc
   have hmul : (rd a (i : Int)).toNat * V b + 4294967296 ^ b.length ≤ 4294967296 ^ (b.length + 1) := by
    rw [Nat.pow_succ, Nat.mul_comm _ 4294967296]
    have h1 : (rd a (i : Int)).toNat * V b ≤ 4294967295 * 4294967296 ^ b.length := Nat.mul_le_mul (by omega) (Nat.le_of_lt hVb.out)
    clear hVo hVa hVb hdrop hrest hc
    generalize 4294967296 ^ b.length = P at *
    omega
   have hc0 : c = 0 := by
    rcases Nat.eq_zero_or_pos c with h | h
    ·exact h
    ·have h1 : 4294967296 ^ (b.length + 1) * 1 ≤ 4294967296 ^ (b.length + 1) * c := Nat.mul_le_mul_left _ h
     have hd := hdrop.out
     clear hVo hVa hVb hdrop hrest
     generalize 4294967296 ^ (b.length + 1) * c = X at *
     generalize 4294967296 ^ (b.length + 1) = Q at *
     generalize 4294967296 ^ b.length = P at *
     omega
   rw [hc0, Nat.mul_zero, Nat.add_zero] at hc
   rw [w64 (by omega) (by omega)]
   refine ih (i + 1) (splice out i row') (by omega) (by rw [splice_length, hl]) (ho.splice hr' i) ?_
   rw [V_splice i (by omega), hl', hrest, Nat.mul_zero, Nat.add_zero, hc, V_take_succ' a i, Nat.add_mul, ← he, Nat.mul_add]
   have := V_take_drop out i (by omega)
   rw [this, Nat.mul_assoc]
   omega) (b.length + 1) 0 ((out.drop i).take (b.length + 1)) 0 (by omega) (by rw [List.length_take]; omega) ((ho.drop i).take _) (by omega) (by omega) (fun _ _ _ => rfl) (by simp [V_nil])
  refine Ev.step (fun k => ?_) key
  simp only [mul_Of.l0]
  rw [if_pos (by omega), if_pos (by omega), if_pos (by omega), hw.out, if_pos (by omega), if_pos (by rw [Int.toNat_natCast]; omega), Int.toNat_natCast, Option.bind_some, if_pos (by omega), Int.toNat_natCast, hrow0, List.length_replicate, Int.natCast_zero]
theorem mul_tells {a b : List Int} (ha : Limbs a) (hb : Limbs b) (hsa : a.length < 1099511627776) (hsb : b.length < 1099511627776) : Ev (fun k => mul_Of.f k a b) (N (V a * V b)) := by
 have hla := len_V ha
 have hlb := len_V hb
 refine Ev.bind (trim_tells ha (by omega)) (Ev.bind (trim_tells hb (by omega)) ?_)
 have := mul_loop (N (V a)) (N (V b)) (N_limbs _) (N_limbs _) (by rw [N_length]; omega) (by rw [N_length]; omega) (len (V a)) 0 (List.replicate (len (V a) + len (V b)) 0) (by rw [N_length]; omega) (by simp [N_length]) (Limbs.rep _) (by rw [V_rep, List.take_zero, V_nil, Nat.zero_mul])
 rw [V_N, V_N, Int.natCast_zero] at this
 refine Ev.congr (fun k => ?_) this
 have hw : wrap64 (((N (V a)).length : Int) + ((N (V b)).length : Int)) = ((len (V a) + len (V b) : Nat) : Int) := by rw [N_length, N_length, w64 (by omega) (by omega)]; rfl
 rw [hw, if_pos (by omega), if_pos (by rw [Int.toNat_natCast]; omega), Int.toNat_natCast]
theorem small_tells {a : List Int} (ha : Limbs a) (hsa : a.length < 1099511627776) {v : Int} (h0 : 0 ≤ v) (h1 : v < 4294967296) : Ev (fun k => mul_Small.f k a v) (N (V a * v.toNat)) := by
 have := mul_tells ha (Limbs.one h0 h1) hsa (by simp)
 rw [show V [v] = v.toNat from by rw [V_cons, V_nil]; omega] at this
 exact Ev.bind this (Ev.now _)
theorem shl_one (r : Nat) (h : r < 32) : shl .u32 1 (r : Int) = ((2 ^ r : Nat) : Int) := by
 unfold shl
 have h2 : 2 ^ r < 2 ^ 32 := Nat.pow_lt_pow_right (by omega) h
 rw [Int.toNat_natCast, show IntKind.u32.bits = 32 from rfl, Nat.min_eq_left (by omega), IntKind.wrap_u32, Int.one_mul]
 have : ((2 : Int) ^ r) = ((2 ^ r : Nat) : Int) := by simp
 rw [this]
 generalize 2 ^ r = P at *
 omega
theorem tdiv32 (n : Nat) : Int.tdiv (n : Int) 32 = ((n / 32 : Nat) : Int) := by
 rw [Int.tdiv_eq_ediv_of_nonneg (by omega)]
 rfl
theorem tmod32 (n : Nat) : Int.tmod (n : Int) 32 = ((n % 32 : Nat) : Int) := by
 rw [Int.tmod_eq_emod_of_nonneg (by omega)]
 rfl
theorem pow_split (n : Nat) : 2 ^ n = 4294967296 ^ (n / 32) * 2 ^ (n % 32) := by
 rw [show (4294967296 : Nat) = 2 ^ 32 from rfl, ← Nat.pow_mul, ← Nat.pow_add, Nat.div_add_mod]
theorem up_tells {a : List Int} (ha : Limbs a) (hsa : a.length < 549755813888) {n : Nat} (hn : n < 1099511627776) : Ev (fun k => mul_up.f k a (n : Int)) (N (V a * 2 ^ n)) := by
 have hw0 : wrap64 (Int.tdiv (n : Int) 32) = ((n / 32 : Nat) : Int) := by rw [tdiv32, w64 (by omega) (by omega)]
 have hw1 : wrap64 (wrap64 (((n / 32 : Nat) : Int) + (a.length : Int)) + 1) = ((n / 32 + a.length + 1 : Nat) : Int) := by
  rw [w64 (x := ((n / 32 : Nat) : Int) + (a.length : Int)) (by omega) (by omega), w64 (by omega) (by omega)]
  omega
 have hsp : Limbs (splice (List.replicate (n / 32 + a.length + 1) 0) (n / 32) a) := (Limbs.rep _).splice ha _
 have hv : V (splice (List.replicate (n / 32 + a.length + 1) 0) (n / 32) a) = 4294967296 ^ (n / 32) * V a := by
  rw [V_splice _ (by rw [List.length_replicate]; omega), List.take_replicate, V_rep, List.drop_replicate, V_rep]
  omega
 have := small_tells hsp (by rw [splice_length, List.length_replicate]; omega) (v := ((2 ^ (n % 32) : Nat) : Int)) (Int.natCast_nonneg _) (by
  have h2 : 2 ^ (n % 32) < 2 ^ 32 := Nat.pow_lt_pow_right (by omega) (by omega)
  generalize 2 ^ (n % 32) = P at *
  omega)
 rw [hv, Int.toNat_natCast, show 4294967296 ^ (n / 32) * V a * 2 ^ (n % 32) = V a * 2 ^ n from by rw [pow_split n, Nat.mul_comm (4294967296 ^ (n / 32)) (V a), Nat.mul_assoc]] at this
 refine Ev.congr (fun k => ?_) (Ev.bind this (Ev.now _))
 unfold mul_up.f
 rw [hw0, hw1, if_pos (by omega), if_pos (by rw [Int.toNat_natCast]; omega), Int.toNat_natCast, Option.bind_some, List.length_replicate, if_pos (by omega), if_pos (by omega), tmod32, if_pos (by omega), Int.toNat_natCast, shl_one _ (by omega)]
theorem shr_cast (k : IntKind) (x : Int) (r : Nat) (h : r ≤ k.bits) : shr k x (r : Int) = x / ((2 ^ r : Nat) : Int) := by
 unfold shr
 rw [Int.toNat_natCast, Nat.min_eq_left h]
 simp
theorem or_u64 (hi lo : Nat) (h1 : hi < 4294967296) (h2 : lo < 4294967296) : Go.bits .or .u64 ((hi : Int) * 4294967296) (lo : Int) = ((hi * 4294967296 + lo : Nat) : Int) := by
 have := u64_or_nat (hi * 4294967296) lo (by omega) (by omega)
 rw [show ((hi * 4294967296 : Nat) : Int) = (hi : Int) * 4294967296 from by omega] at this
 rw [this, nat_join 32 _ _ (by omega) (by omega)]
theorem shifted (T r i : Nat) (hr : r < 32) : T / 2 ^ r / 4294967296 ^ i % 4294967296 = ((T / 4294967296 ^ (i + 1) % 4294967296) * 4294967296 + T / 4294967296 ^ i % 4294967296) / 2 ^ r % 4294967296 := by
 rw [Nat.div_div_eq_div_mul T (2 ^ r), Nat.mul_comm (2 ^ r), ← Nat.div_div_eq_div_mul T, Nat.pow_succ, ← Nat.div_div_eq_div_mul T (4294967296 ^ i)]
 generalize T / 4294967296 ^ i = X
 obtain ⟨Y, hY⟩ : ∃ Y, Y = (X / 4294967296 % 4294967296) * 4294967296 + X % 4294967296 := ⟨_, rfl⟩
 obtain ⟨Z, hZ⟩ : ∃ Z, Z = X / 4294967296 / 4294967296 := ⟨_, rfl⟩
 have e : X = Z * 4294967296 * 4294967296 + Y := by omega
 rw [← hY, e]
 clear e hY hZ
 obtain ⟨p, hp⟩ : ∃ p, p = 2 ^ r := ⟨_, rfl⟩
 obtain ⟨q, hq⟩ : ∃ q, q = 2 ^ (32 - r) := ⟨_, rfl⟩
 have hpq : p * q = 4294967296 := by rw [hp, hq, ← Nat.pow_add, show r + (32 - r) = 32 from by omega]
 have hp0 : 0 < p := by rw [hp]; exact Nat.pow_pos (by omega)
 rw [← hp]
 clear hp hq
 have e2 : Z * 4294967296 * 4294967296 = p * (Z * q * 4294967296) := by
  rw [← hpq]
  simp only [Nat.mul_comm, Nat.mul_left_comm]
 rw [e2, Nat.mul_add_div hp0, Nat.add_comm, Nat.add_mul_mod_self_right]
theorem rd_V {l : List Int} (hl : Limbs l) (i : Nat) : (rd l (i : Int)).toNat = V l / 4294967296 ^ i % 4294967296 := by
 by_cases h : i < l.length
 ·have h1 := V_drop hl i (by omega)
  rw [drop_cons l i h, V_cons] at h1
  have := rd_nonneg hl (i : Int)
  rw [← h1, Nat.add_mul_mod_self_left, Nat.mod_eq_of_lt (by omega)]
 ·rw [rd_out l i (by omega), Nat.div_eq_of_lt (Nat.lt_of_lt_of_le (V_lt hl) (Nat.pow_le_pow_right (by omega) (by omega)))]
  rfl
theorem V_mod_succ (X i : Nat) : X % 4294967296 ^ (i + 1) = X % 4294967296 ^ i + 4294967296 ^ i * (X / 4294967296 ^ i % 4294967296) := by
 rw [Nat.pow_succ, Nat.mod_mul]
theorem down_loop (t : List Int) (ht : Limbs t) (n r : Nat) (hr : r < 32) (htm : Int.tmod (n : Int) 32 = (r : Int)) (hs : t.length < 1099511627776) (d : Nat) :
  ∀ (i : Nat) (out : List Int), i + d = t.length → out.length = t.length → Limbs out → (∀ q : Nat, i ≤ q → q < t.length → rd out (q : Int) = rd t (q : Int)) → Hd (V (out.take i) = (V t / 2 ^ r) % 4294967296 ^ i) →
  Ev (fun k => mul_down.l0 k (n : Int) out (t.length : Int) (i : Int)) (N (V t / 2 ^ r)) := by
 induction d with
 | zero =>
  intro i out hi hl ho _ he
  obtain rfl : i = t.length := by omega
  replace he := he.out
  rw [List.take_of_length_le (by omega), Nat.mod_eq_of_lt (Nat.lt_of_le_of_lt (Nat.div_le_self _ _) (V_lt ht))] at he
  rw [← he]
  exact Ev.step (f := fun k => (nat_Trim.f k out).bind fun t => some t) (fun k => by simp only [mul_down.l0]; rw [if_neg (by omega)]) (Ev.bind (trim_tells ho (by omega)) (Ev.now _))
 | succ d ih =>
  intro i out hi hl ho hsame he
  have rt := rd_nonneg ht (i : Int)
  have rt1 := rd_nonneg ht ((i + 1 : Nat) : Int)
  have ro := hsame i (Nat.le_refl _) (by omega)
  have hw : wrap64 ((i : Int) + 1) = ((i + 1 : Nat) : Int) := by rw [w64 (by omega) (by omega)]; rfl
  obtain ⟨lo, hlo⟩ := Int.eq_ofNat_of_zero_le rt.1
  obtain ⟨hg, hhg⟩ := Int.eq_ofNat_of_zero_le rt1.1
  have hd : Hd (V t / 2 ^ r / 4294967296 ^ i % 4294967296 = (hg * 4294967296 + lo) / 2 ^ r % 4294967296) := by
   refine ⟨?_⟩
   rw [shifted _ _ _ hr, ← rd_V ht, ← rd_V ht, hlo, hhg]
   rfl
  have next : ∀ x : Int, x = (((hg * 4294967296 + lo) / 2 ^ r % 4294967296 : Nat) : Int) → Ev (fun k => mul_down.l0 k (n : Int) (out.set i x) (t.length : Int) ((i + 1 : Nat) : Int)) (N (V t / 2 ^ r)) := by
   rintro x rfl
   refine ih (i + 1) _ (by omega) (by rw [List.length_set]; exact hl) (ho.set i (by omega) (by omega)) (fun q hq hqn => by rw [rd_set_ne _ _ _ _ (by omega)]; exact hsame q (by omega) hqn) ⟨?_⟩
   rw [V_take_set out i _ (by omega), he.out, V_mod_succ, hd.out, Int.toNat_natCast]
  have hsh : ∀ m : Nat, shr .u64 (m : Int) (r : Int) % 4294967296 = ((m / 2 ^ r % 4294967296 : Nat) : Int) := by
   intro m
   rw [shr_cast .u64 _ r (by show r ≤ 64; omega)]
   simp
  by_cases h1 : i + 1 < t.length
  ·have ro1 := hsame (i + 1) (by omega) h1
   refine Ev.step (fun k => ?_) (next _ rfl)
   simp only [mul_down.l0]
   rw [if_pos (by omega), hw, if_pos (by omega), if_pos (by omega), if_pos (by omega), if_pos (by omega), htm, if_pos (by omega), Int.toNat_natCast, ro, ro1, hlo, hhg, u64 (x := ((hg : Nat) : Int)) (by omega) (by omega), u64 (x := ((lo : Nat) : Int)) (by omega) (by omega), u64 (x := ((hg : Nat) : Int) * 4294967296) (by omega) (by omega), or_u64 hg lo (by omega) (by omega), hsh]
  ·have hz : hg = 0 := by have := rd_out t (i + 1) (by omega); omega
   refine Ev.step (fun k => ?_) (next _ rfl)
   simp only [mul_down.l0]
   have hor := or_u64 0 lo (by omega) (by omega)
   rw [show ((0 : Nat) : Int) * 4294967296 = 0 from rfl] at hor
   rw [if_pos (by omega), hw, if_neg (by omega), if_pos (by omega), if_pos (by omega), htm, if_pos (by omega), Int.toNat_natCast, ro, hlo, u64 (x := ((lo : Nat) : Int)) (by omega) (by omega), hor, hsh, hz]
theorem down_tells {a : List Int} (ha : Limbs a) (hsa : a.length < 1099511627776) {n : Nat} (hn : n < 1099511627776) : Ev (fun k => mul_down.f k a (n : Int)) (N (V a / 2 ^ n)) := by
 have hw0 : wrap64 (Int.tdiv (n : Int) 32) = ((n / 32 : Nat) : Int) := by rw [tdiv32, w64 (by omega) (by omega)]
 have hdiv : V a / 2 ^ n = V a / 4294967296 ^ (n / 32) / 2 ^ (n % 32) := by rw [pow_split n, Nat.div_div_eq_div_mul]
 by_cases h : n / 32 < a.length
 ·have hd := trim_tells (ha.drop (n / 32)) (by rw [List.length_drop]; omega)
  rw [V_drop ha _ (by omega)] at hd
  have hll : len (V a / 4294967296 ^ (n / 32)) ≤ a.length := Nat.le_trans (len_mono (Nat.div_le_self _ _)) (len_V ha)
  have key := down_loop (N (V a / 4294967296 ^ (n / 32))) (N_limbs _) n (n % 32) (by omega) (tmod32 n) (by rw [N_length]; omega) (len (V a / 4294967296 ^ (n / 32))) 0 (N (V a / 4294967296 ^ (n / 32))) (by rw [N_length]; omega) rfl (N_limbs _) (fun _ _ _ => rfl) ⟨by simp [V_nil, Nat.mod_one]⟩
  rw [V_N, ← hdiv, Int.natCast_zero] at key
  refine Ev.congr (fun k => ?_) (Ev.bind (f := fun k t => mul_down.l0 k (n : Int) t (t.length : Int) 0) hd key)
  unfold mul_down.f
  rw [hw0, if_neg (by omega), if_pos (by omega), if_pos (by omega), Int.toNat_natCast]
 ·have hz : V a / 2 ^ n = 0 := by
   rw [hdiv, Nat.div_eq_of_lt (Nat.lt_of_lt_of_le (V_lt ha) (Nat.pow_le_pow_right (by omega) (by omega))), Nat.zero_div]
  rw [hz, N_zero]
  refine Ev.congr (fun k => ?_) (Ev.now _)
  unfold mul_down.f
  rw [hw0, if_pos (by omega)]
theorem shift_up {a : List Int} (ha : Limbs a) (hsa : a.length < 549755813888) {n : Nat} (hn : n ≤ 8192) : Ev (fun k => mul_Shift.f k a (n : Int)) (N (V a * 2 ^ n)) := by
 refine Ev.congr (fun k => ?_) (Ev.bind (up_tells ha hsa (n := n) (by omega)) (Ev.now _))
 unfold mul_Shift.f
 rw [if_pos (by omega), show mn (n : Int) 8192 = (n : Int) from by unfold mn; split <;> omega]
theorem shift_down {a : List Int} (ha : Limbs a) (hsa : a.length < 549755813888) {n : Nat} (hn : n ≤ 8192) : Ev (fun k => mul_Shift.f k a (-(n : Int))) (N (V a / 2 ^ n)) := by
 rcases Nat.eq_zero_or_pos n with rfl | h
 ·have := shift_up ha hsa (n := 0) (by omega)
  rw [Nat.pow_zero, Nat.mul_one] at this
  rw [Nat.pow_zero, Nat.div_one]
  exact this
 ·refine Ev.congr (fun k => ?_) (Ev.bind (down_tells ha (by omega) (n := n) (by omega)) (Ev.now _))
  unfold mul_Shift.f
  rw [if_neg (by omega), if_neg (by omega), Int.neg_neg, w64 (by omega) (by omega)]
theorem add1_end {a b : List Int} (n : Nat) (hna : a.length ≤ n) (hnb : b.length ≤ n) (hn : n < 17592186044416) (out : List Int) (ho : Limbs out) (hl : out.length ≤ n + 1) (he : Hd (V out = V a + V b)) :
  ∀ i : Nat, n ≤ i → i < n + 2 → Ev (fun k => steelyardref01_Add.l0 k a b out 0 (i : Int)) (N (V a + V b)) := by
 intro i h1 h2
 rw [← he.out]
 refine Ev.step (f := fun k => steelyardref01_Add.j1 k a b out 0 (i : Int) false) (fun k => by simp only [steelyardref01_Add.l0]; rw [if_neg (by omega), if_neg (by omega)]; rfl) ?_
 exact Ev.step (f := fun k => (steelyardref01_Trim.f k out).bind fun t => some t) (fun k => by simp only [steelyardref01_Add.j1]; rw [if_neg (by simp)]) (Ev.bind (trim1_tells ho (by omega)) (Ev.now _))
theorem add1_push (a b : List Int) (ha : Limbs a) (hb : Limbs b) (out : List Int) (c : Int) (h0 : 0 ≤ c) (h1 : c ≤ 1) (i : Nat) (hi : i < 17592186044417) (ho : out.length = i) (r : List Int) (hgo : i < a.length ∨ i < b.length ∨ 0 < c)
  (h : Ev (fun k => steelyardref01_Add.l0 k a b (out ++ [(rd a (i : Int) + rd b (i : Int) + c) % 4294967296]) ((rd a (i : Int) + rd b (i : Int) + c) / 4294967296) ((i + 1 : Nat) : Int)) r) :
  Ev (fun k => steelyardref01_Add.l0 k a b out c (i : Int)) r := by
 have ra := rd_nonneg ha (i : Int)
 have rb := rd_nonneg hb (i : Int)
 have hj : Ev (fun k => steelyardref01_Add.j1 k a b out c (i : Int) true) r := by
  refine Ev.step (fun k => ?_) h
  simp only [steelyardref01_Add.j1]
  rw [if_pos trivial, at1_tells ha, at1_tells hb, Option.bind_some, Option.bind_some, if_pos (by omega), u64 (x := rd a (i : Int) + rd b (i : Int)) (by omega) (by omega), show c + (rd a (i : Int) + rd b (i : Int)) = rd a (i : Int) + rd b (i : Int) + c from by omega, u64 (by omega) (by omega), w64 (by omega) (by omega)]
  rfl
 refine Ev.step (fun k => ?_) hj
 simp only [steelyardref01_Add.l0]
 by_cases g1 : i < a.length
 ·rw [if_pos (by omega)]
 ·rw [if_neg (by omega)]
  by_cases g2 : i < b.length
  ·rw [if_pos (by omega)]
  ·rw [if_neg (by omega), decide_eq_true (by omega)]
theorem add1_loop (a b : List Int) (ha : Limbs a) (hb : Limbs b) (n : Nat) (hna : a.length ≤ n) (hnb : b.length ≤ n) (hmax : n ≤ a.length ∨ n ≤ b.length) (hn : n < 17592186044416) (d : Nat) : ∀ (i : Nat) (out : List Int) (c : Int), i + d = n → out.length = i → Limbs out → 0 ≤ c → c ≤ 1 →
  Hd (V out + 4294967296 ^ i * c.toNat = V (a.take i) + V (b.take i)) → Ev (fun k => steelyardref01_Add.l0 k a b out c (i : Int)) (N (V a + V b)) := by
 induction d with
 | zero =>
  intro i out c hi ho hl h0 h1 he
  obtain rfl : i = n := by omega
  replace he := he.out
  rw [List.take_of_length_le hna, List.take_of_length_le hnb] at he
  by_cases hc : c = 0
  ·subst hc
   exact add1_end i hna hnb hn out hl (by omega) ⟨by rw [← he]; simp⟩ i (Nat.le_refl _) (by omega)
  ·obtain rfl : c = 1 := by omega
   replace he := Hd.mk he
   refine add1_push a b ha hb out 1 (by omega) (by omega) i (by omega) ho _ (.inr (.inr (by omega))) ?_
   rw [rd_out a i hna, rd_out b i hnb]
   exact add1_end i hna hnb hn (out ++ [1]) (hl.app (Limbs.one (by omega) (by omega))) (by rw [List.length_append, ho]; simp) ⟨by rw [← he.out, V_snoc, ho]⟩ (i + 1) (by omega) (by omega)
 | succ d ih =>
  intro i out c hi ho hl h0 h1 he
  have ra := rd_nonneg ha (i : Int)
  have rb := rd_nonneg hb (i : Int)
  refine add1_push a b ha hb out c h0 h1 i (by omega) ho _ (by omega) ?_
  refine ih (i + 1) _ _ (by omega) (by rw [List.length_append, ho]; rfl) (hl.app (Limbs.one (by omega) (by omega))) (by omega) (by omega) ⟨?_⟩
  rw [V_snoc, ho, V_take_succ' a i, V_take_succ' b i, Nat.pow_succ, Nat.mul_assoc, Nat.add_assoc, ← Nat.mul_add]
  have e : ((rd a (i : Int) + rd b (i : Int) + c) % 4294967296).toNat + 4294967296 * ((rd a (i : Int) + rd b (i : Int) + c) / 4294967296).toNat = (rd a (i : Int)).toNat + (rd b (i : Int)).toNat + c.toNat := by clear he; omega
  rw [e, Nat.mul_add, Nat.mul_add]
  have := he.out
  clear he e
  generalize 4294967296 ^ i * c.toNat = X at *
  generalize 4294967296 ^ i * (rd a (i : Int)).toNat = Y at *
  generalize 4294967296 ^ i * (rd b (i : Int)).toNat = Z at *
  omega
theorem add1_tells {a b : List Int} (ha : Limbs a) (hb : Limbs b) (hsa : a.length < 17592186044416) (hsb : b.length < 17592186044416) : Ev (fun k => steelyardref01_Add.f k a b) (N (V a + V b)) :=
 Ev.congr (fun k => rfl) (add1_loop a b ha hb (max a.length b.length) (by omega) (by omega) (by omega) (by omega) (max a.length b.length) 0 [] 0 (by omega) rfl Limbs.nil (by omega) (by omega) ⟨by simp [V_nil]⟩)
theorem sub1_loop (a b : List Int) (ha : Limbs a) (hb : Limbs b) (hs : a.length < 17592186044416) (hle : V b ≤ V a) (d : Nat) : ∀ (i : Nat) (out : List Int) (c : Int), i + d = a.length → out.length = i → Limbs out → 0 ≤ c → c ≤ 1 →
  Hd ((V out : Int) - 4294967296 ^ i * c = V (a.take i) - V (b.take i)) → Ev (fun k => steelyardref01_Sub.l0 k a b out c (i : Int)) (N (V a - V b)) := by
 induction d with
 | zero =>
  intro i out c hi ho hl h0 h1 he
  obtain rfl : i = a.length := by omega
  have hva := V_lt ha
  have hb2 : V (b.take a.length) = V b := by
   by_cases hx : a.length ≤ b.length
   ·rw [V_take hb _ hx, Nat.mod_eq_of_lt (Nat.lt_of_le_of_lt hle hva)]
   ·rw [List.take_of_length_le (by omega)]
  have h2 := he.out
  rw [hb2, List.take_length] at h2
  have lo := V_lt hl
  rw [ho] at lo
  have hv : V out = V a - V b := by
   clear he
   have q3 : c = 0 ∨ c = 1 := by omega
   rcases q3 with rfl | rfl
   ·simp at h2
    clear lo hva
    omega
   ·rw [Int.mul_one] at h2
    have : ((4294967296 ^ a.length : Nat) : Int) = (4294967296 : Int) ^ a.length := by simp
    generalize 4294967296 ^ a.length = P at *
    generalize (4294967296 : Int) ^ a.length = Q at *
    omega
  rw [← hv]
  clear lo hva he h2
  exact Ev.step (f := fun k => (steelyardref01_Trim.f k out).bind fun t => some t) (fun k => by simp only [steelyardref01_Sub.l0]; rw [if_neg (by omega)]) (Ev.bind (trim1_tells hl (by omega)) (Ev.now _))
 | succ d ih =>
  intro i out c hi ho hl h0 h1 he
  have ra := rd_nonneg ha (i : Int)
  have rb := rd_nonneg hb (i : Int)
  have key : ∀ (x c' : Int), 0 ≤ x → x < 4294967296 → 0 ≤ c' → c' ≤ 1 → x - 4294967296 * c' = rd a (i : Int) - rd b (i : Int) - c → Ev (fun k => steelyardref01_Sub.l0 k a b (out ++ [x]) c' ((i + 1 : Nat) : Int)) (N (V a - V b)) := by
   intro x c' x0 x1 c0 c1 hx
   refine ih (i + 1) _ _ (by omega) (by rw [List.length_append, ho]; rfl) (hl.app (Limbs.one x0 x1)) c0 c1 ⟨?_⟩
   rw [V_snoc, ho, V_take_succ' a i, V_take_succ' b i, Int.pow_succ]
   have e2 := congrArg (fun z : Int => (4294967296 : Int) ^ i * z) hx
   simp only [Int.mul_sub, ← Int.mul_assoc] at e2
   simp only [Int.natCast_add, Int.natCast_mul, Int.natCast_pow]
   rw [Int.toNat_of_nonneg x0, Int.toNat_of_nonneg ra.1, Int.toNat_of_nonneg rb.1, show ((4294967296 : Nat) : Int) = 4294967296 from rfl]
   have h2 := he.out
   clear he hx
   generalize (4294967296 : Int) ^ i = P at *
   generalize P * x = X1 at *
   generalize P * 4294967296 * c' = X2 at *
   generalize P * rd a (i : Int) = X3 at *
   generalize P * rd b (i : Int) = X4 at *
   generalize P * c = X5 at *
   omega
  by_cases hlt : rd a (i : Int) < rd b (i : Int) + c
  ·refine Ev.step (fun k => ?_) (key (rd a (i : Int) + 4294967296 - (rd b (i : Int) + c)) 1 (by omega) (by omega) (by omega) (by omega) (by omega))
   simp only [steelyardref01_Sub.l0]
   rw [if_pos (by omega), at1_tells ha, at1_tells hb, Option.bind_some, Option.bind_some, u64 (x := rd b (i : Int) + c) (by omega) (by omega), if_pos hlt, if_pos (by omega), u64 (x := rd a (i : Int) + 4294967296) (by omega) (by omega), u64 (by omega) (by omega), Int.emod_eq_of_lt (by omega) (by omega), w64 (by omega) (by omega)]
   rfl
  ·refine Ev.step (fun k => ?_) (key (rd a (i : Int) - (rd b (i : Int) + c)) 0 (by omega) (by omega) (by omega) (by omega) (by omega))
   simp only [steelyardref01_Sub.l0]
   rw [if_pos (by omega), at1_tells ha, at1_tells hb, Option.bind_some, Option.bind_some, u64 (x := rd b (i : Int) + c) (by omega) (by omega), if_neg hlt, if_pos (by omega), u64 (by omega) (by omega), Int.emod_eq_of_lt (by omega) (by omega), w64 (by omega) (by omega)]
   rfl
theorem sub1_tells {a b : List Int} (ha : Limbs a) (hb : Limbs b) (hsa : a.length < 17592186044416) (hle : V b ≤ V a) : Ev (fun k => steelyardref01_Sub.f k a b) (N (V a - V b)) :=
 Ev.congr (fun k => rfl) (sub1_loop a b ha hb hsa hle a.length 0 [] 0 (by omega) rfl Limbs.nil (by omega) (by omega) ⟨by simp [V_nil]⟩)
theorem of1_tells {v : Int} (h0 : 0 ≤ v) (h1 : v < 18446744073709551616) : Ev (fun k => steelyardref01_Of.f k v) (N v.toNat) := by
 have hl : Limbs [v % 4294967296, v / 4294967296 % 4294967296] := Limbs.cons (by omega) (by omega) (Limbs.one (by omega) (by omega))
 have := trim1_tells hl (by simp)
 rw [V_cons, V_cons, V_nil, show (v % 4294967296).toNat + 4294967296 * ((v / 4294967296 % 4294967296).toNat + 4294967296 * 0) = v.toNat from by omega] at this
 exact Ev.bind this (Ev.now _)
theorem bit_V {l : List Int} (hl : Limbs l) (i : Nat) : (rd l ((i / 32 : Nat) : Int)).toNat / 2 ^ (i % 32) % 2 = V l / 2 ^ i % 2 := by
 rw [rd_V hl, pow_split i, ← Nat.div_div_eq_div_mul]
 generalize V l / 4294967296 ^ (i / 32) = X
 have hr : i % 32 < 32 := Nat.mod_lt _ (by omega)
 generalize i % 32 = r at *
 have hp : 4294967296 = 2 ^ r * (2 * 2 ^ (31 - r)) := by rw [← Nat.pow_succ', ← Nat.pow_add, show r + (31 - r).succ = 32 from by omega]
 have e : X = 4294967296 * (X / 4294967296) + X % 4294967296 := (Nat.div_add_mod X 4294967296).symm
 obtain ⟨Y, hY⟩ : ∃ Y, Y = X % 4294967296 := ⟨_, rfl⟩
 obtain ⟨Z, hZ⟩ : ∃ Z, Z = X / 4294967296 := ⟨_, rfl⟩
 rw [← hY, ← hZ] at e
 rw [← hY, e, hp, Nat.mul_assoc, Nat.mul_add_div (Nat.pow_pos (by omega)), Nat.mul_assoc, Nat.mul_add_mod]
theorem and_one (x : Nat) (k : IntKind) (hk : k = .u64 ∨ k = .u32) (hx : x < 4294967296) : (Go.bits .and k (x : Int) 1 == 1) = decide (x % 2 = 1) := by
 rcases hk with rfl | rfl
 ·rw [show (1 : Int) = ((1 : Nat) : Int) from rfl, u64_and_nat x 1 (by omega) (by omega), nat_mask1]
  by_cases h : x % 2 = 1
  ·rw [h]; rfl
  ·rw [decide_eq_false h, show x % 2 = 0 from by omega]; rfl
 ·rw [show (1 : Int) = ((1 : Nat) : Int) from rfl, u32_and_nat x 1 (by omega) (by omega), nat_mask1]
  by_cases h : x % 2 = 1
  ·rw [h]; rfl
  ·rw [decide_eq_false h, show x % 2 = 0 from by omega]; rfl
theorem bit1_tells {l : List Int} (hl : Limbs l) (i : Nat) (hi : i < 1125899906842624) : steelyardref01_Bit.f l (i : Int) = some (decide (V l / 2 ^ i % 2 = 1)) := by
 have hr := rd_nonneg hl ((i / 32 : Nat) : Int)
 obtain ⟨x, hx⟩ := Int.eq_ofNat_of_zero_le hr.1
 unfold steelyardref01_Bit.f
 rw [if_pos (by omega), tdiv32, w64 (by omega) (by omega), at1_tells hl, Option.bind_some, tmod32, u64 (x := ((i % 32 : Nat) : Int)) (by omega) (by omega), if_pos (by omega), shr_cast .u64 _ _ (by show i % 32 ≤ 64; omega), hx, ← Int.natCast_ediv, and_one _ _ (.inl rfl) (Nat.lt_of_le_of_lt (Nat.div_le_self _ _) (by omega)), ← bit_V hl i, hx]
 rfl
theorem bit_tells {l : List Int} (hl : Limbs l) (i : Nat) (hi : i < 1125899906842624) : nat_Bit.f l (i : Int) = some (decide (V l / 2 ^ i % 2 = 1)) := by
 have hr := rd_nonneg hl ((i / 32 : Nat) : Int)
 obtain ⟨x, hx⟩ := Int.eq_ofNat_of_zero_le hr.1
 have hb := bit_V hl i
 unfold nat_Bit.f
 rw [if_pos (by omega), tdiv32, w64 (by omega) (by omega)]
 by_cases h : i / 32 < l.length
 ·rw [if_pos (by omega), if_pos (by omega), tmod32, if_pos (by omega), shr_cast .u32 _ _ (by show i % 32 ≤ 32; omega), hx, ← Int.natCast_ediv, and_one _ _ (.inr rfl) (Nat.lt_of_le_of_lt (Nat.div_le_self _ _) (by omega)), ← hb, hx]
  rfl
 ·rw [if_neg (by omega), ← hb, rd_out l _ (by omega)]
  simp
def nb (n : Nat) : Nat := if n = 0 then 0 else n.log2 + 1
theorem nb_le {n k : Nat} : nb n ≤ k ↔ n < 2 ^ k := by
 unfold nb
 split
 ·rename_i h
  subst h
  exact ⟨fun _ => Nat.pow_pos (by omega), fun _ => Nat.zero_le _⟩
 ·rename_i h
  rw [Nat.add_one_le_iff, Nat.log2_lt h]
theorem lt_nb (n : Nat) : n < 2 ^ nb n := nb_le.1 (Nat.le_refl _)
theorem bits1_loop (l : List Int) (hl : Limbs l) (i : Nat) : i < 1125899906842624 → Hd (V l < 2 ^ i) → Ev (fun k => steelyardref01_Bits.l0 k l (i : Int)) ((nb (V l) : Nat) : Int) := by
 induction i with
 | zero =>
  intro _ he
  have h0 : V l = 0 := by have := he.out; simp at this; exact this
  rw [h0]
  exact Ev.step (f := fun k => some (0 : Int)) (fun k => by simp only [steelyardref01_Bits.l0]; rw [if_neg (by omega)]; rfl) (Ev.now _)
 | succ i ih =>
  intro hi he
  have hw : Hd (wrap64 (((i + 1 : Nat) : Int) - 1) = (i : Int)) := ⟨by rw [w64 (by omega) (by omega)]; omega⟩
  by_cases h : V l / 2 ^ i % 2 = 1
  ·have : nb (V l) = i + 1 := by
    have h1 : nb (V l) ≤ i + 1 := nb_le.2 he.out
    have h2 : ¬ nb (V l) ≤ i := fun h3 => by
     have := nb_le.1 h3
     rw [Nat.div_eq_of_lt this] at h
     cases h
    omega
   rw [this]
   refine Ev.step (f := fun k => some ((i + 1 : Nat) : Int)) (fun k => ?_) (Ev.now _)
   simp only [steelyardref01_Bits.l0]
   rw [if_pos (by omega), hw.out, bit1_tells hl i (by omega), Option.bind_some, decide_eq_true h, if_pos rfl]
  ·refine Ev.step (fun k => ?_) (ih (by omega) ⟨?_⟩)
   ·simp only [steelyardref01_Bits.l0]
    rw [if_pos (by omega), hw.out, bit1_tells hl i (by omega), Option.bind_some, decide_eq_false h, if_neg (by simp)]
   ·have h1 := he.out
    rw [Nat.pow_succ] at h1
    have h2 : V l / 2 ^ i < 2 := (Nat.div_lt_iff_lt_mul (Nat.pow_pos (by omega))).2 (by rwa [Nat.mul_comm] at h1)
    have h3 : V l / 2 ^ i = 0 := by clear he h1; generalize V l / 2 ^ i = X at *; omega
    exact (Nat.div_eq_zero_iff_lt (Nat.pow_pos (by omega))).1 h3
theorem pow32 (n : Nat) : 4294967296 ^ n = 2 ^ (32 * n) := by rw [show (4294967296 : Nat) = 2 ^ 32 from rfl, ← Nat.pow_mul]
theorem bits1_tells {l : List Int} (hl : Limbs l) (hs : l.length < 17592186044416) : Ev (fun k => steelyardref01_Bits.f k l) ((nb (V l) : Nat) : Int) := by
 have := bits1_loop l hl (32 * l.length) (by omega) ⟨by rw [← pow32]; exact V_lt hl⟩
 refine Ev.congr (fun k => ?_) this
 unfold steelyardref01_Bits.f
 rw [w64 (by omega) (by omega)]
 rfl
theorem V_end (out : List Int) (c : Int) (h0 : 0 ≤ c) (h1 : c < 4294967296) : V (out ++ [c % 4294967296]) = V out + 4294967296 ^ out.length * c.toNat := by
 rw [V_snoc, Int.emod_eq_of_lt h0 h1]
theorem small2_loop (a : List Int) (ha : Limbs a) (v : Int) (v0 : 0 ≤ v) (v1 : v < 4294967296) (hs : a.length < 17592186044416) (d : Nat) : ∀ (i : Nat) (out : List Int) (c : Int), i + d = a.length → out.length = i → Limbs out → 0 ≤ c → c < 4294967296 →
  Hd (V out + 4294967296 ^ i * c.toNat = V (a.take i) * v.toNat) → Ev (fun k => steelyardref02_Small.l0 k a v out c (i : Int)) (N (V a * v.toNat)) := by
 induction d with
 | zero =>
  intro i out c hi ho hl h0 h1 he
  obtain rfl : i = a.length := by omega
  have h2 := he.out
  rw [List.take_length, ← ho] at h2
  rw [← h2, ← V_end out c h0 h1]
  clear h2 he
  refine Ev.step (f := fun k => (steelyardref01_Trim.f k (out ++ [c % 4294967296])).bind fun t => some t) (fun k => by simp only [steelyardref02_Small.l0]; rw [if_neg (by omega), if_pos (by omega)]) (Ev.bind (trim1_tells (hl.app (Limbs.one (by omega) (by omega))) (by rw [List.length_append]; simp; omega)) (Ev.now _))
 | succ d ih =>
  intro i out c hi ho hl h0 h1 he
  have ra := rd_nonneg ha (i : Int)
  have hx0 : 0 ≤ rd a (i : Int) * v := Int.mul_nonneg ra.1 v0
  have hx1 : rd a (i : Int) * v ≤ 4294967295 * 4294967295 := Int.mul_le_mul (by omega) (by omega) v0 (by omega)
  obtain ⟨s, hs⟩ : ∃ s, s = c + rd a (i : Int) * v := ⟨_, rfl⟩
  have key := ih (i + 1) (out ++ [s % 4294967296]) (s / 4294967296) (by omega) (by rw [List.length_append, ho]; rfl) (hl.app (Limbs.one (by omega) (by omega))) (by omega) (by omega) ⟨by
   rw [V_snoc, ho, V_take_succ' a i, Nat.pow_succ, Nat.mul_assoc, Nat.add_assoc, ← Nat.mul_add, Nat.add_mul]
   have e : (s % 4294967296).toNat + 4294967296 * (s / 4294967296).toNat = c.toNat + (rd a (i : Int)).toNat * v.toNat := by
    have h1 : (((rd a (i : Int)).toNat * v.toNat : Nat) : Int) = rd a (i : Int) * v := by rw [Int.natCast_mul, Int.toNat_of_nonneg ra.1, Int.toNat_of_nonneg v0]
    clear he
    omega
   rw [e, Nat.mul_add, ← he.out]
   simp only [Nat.mul_assoc, Nat.add_assoc]⟩
  refine Ev.step (fun k => ?_) key
  simp only [steelyardref02_Small.l0]
  rw [if_pos (by omega), if_pos (by omega), if_pos (by omega), u64 ra.1 (by omega), u64 v0 (by omega), u64 hx0 (by omega), ← hs, u64 (x := s) (by omega) (by omega), w64 (by omega) (by omega)]
  rfl
theorem small2_tells {a : List Int} (ha : Limbs a) (hsa : a.length < 17592186044416) {v : Int} (v0 : 0 ≤ v) (v1 : v < 4294967296) : Ev (fun k => steelyardref02_Small.f k a v) (N (V a * v.toNat)) :=
 Ev.congr (fun k => rfl) (small2_loop a ha v v0 v1 hsa a.length 0 [] 0 (by omega) rfl Limbs.nil (by omega) (by omega) ⟨by simp [V_nil]⟩)
theorem or_shl (c x r : Nat) (hr : r < 32) (hc : c < 2 ^ r) (hx : x < 4294967296) : Go.bits .or .u64 (c : Int) (shl .u64 (x : Int) (r : Int)) = ((c + x * 2 ^ r : Nat) : Int) ∧ c + x * 2 ^ r < 18446744073709551616 ∧ (c + x * 2 ^ r) / 4294967296 < 2 ^ r := by
 have hp : 2 ^ r ≤ 2147483648 := by rw [show 2147483648 = 2 ^ 31 from rfl]; exact Nat.pow_le_pow_right (by omega) (by omega)
 have hxr : x * 2 ^ r ≤ 4294967295 * 2 ^ r := Nat.mul_le_mul_right _ (by omega)
 have hm : x * 2 ^ r % 2 ^ r = 0 := Nat.mul_mod_left _ _
 have hsum : (c + x * 2 ^ r) / 4294967296 < 2 ^ r := by
  rw [Nat.div_lt_iff_lt_mul (by omega)]
  clear hm
  generalize x * 2 ^ r = Y at *
  generalize 2 ^ r = P at *
  omega
 have hsh : shl .u64 (x : Int) (r : Int) = ((x * 2 ^ r : Nat) : Int) := by
  unfold shl
  rw [Int.toNat_natCast, show IntKind.u64.bits = 64 from rfl, Nat.min_eq_left (by omega), show (2 : Int) ^ r = ((2 ^ r : Nat) : Int) from by simp, ← Int.natCast_mul]
  exact u64 (Int.natCast_nonneg _) (by
   clear hm hsum
   generalize x * 2 ^ r = Y at *
   generalize 2 ^ r = P at *
   omega)
 have h1 := u64_or_nat c (x * 2 ^ r) (by clear hm hsum hsh; generalize x * 2 ^ r = Y at *; generalize 2 ^ r = P at *; omega) (by clear hm hsum hsh; generalize x * 2 ^ r = Y at *; generalize 2 ^ r = P at *; omega)
 refine ⟨?_, by clear hm hsum hsh h1; generalize x * 2 ^ r = Y at *; generalize 2 ^ r = P at *; omega, hsum⟩
 rw [hsh, h1, Nat.or_comm, nat_join r _ _ hm hc, Nat.add_comm]
theorem up2_loop (a : List Int) (ha : Limbs a) (n : Nat) (hn : n < 1099511627776) (hs : a.length < 8796093022208) (d : Nat) : ∀ (i : Nat) (out : List Int) (c : Nat), i + d = a.length → out.length = n / 32 + i → Limbs out → Hd (c < 2 ^ (n % 32)) →
  Hd (V out + 4294967296 ^ (n / 32 + i) * c = V (a.take i) * 2 ^ n) → Ev (fun k => steelyardref02_Up.l0 k a (n : Int) out (c : Int) (i : Int)) (N (V a * 2 ^ n)) := by
 have hp : Hd (2 ^ (n % 32) ≤ 2147483648) := ⟨by rw [show 2147483648 = 2 ^ 31 from rfl]; exact Nat.pow_le_pow_right (by omega) (by omega)⟩
 induction d with
 | zero =>
  intro i out c hi ho hl hc he
  obtain rfl : i = a.length := by omega
  have hc1 : c < 4294967296 := Nat.lt_of_lt_of_le hc.out (Nat.le_trans hp.out (by omega))
  have h2 := he.out
  rw [List.take_length, ← ho] at h2
  have e := V_end out (c : Int) (by omega) (by omega)
  rw [Int.toNat_natCast, h2] at e
  rw [← e]
  clear h2 he e
  refine Ev.step (f := fun k => (steelyardref01_Trim.f k (out ++ [(c : Int) % 4294967296])).bind fun t => some t) (fun k => by simp only [steelyardref02_Up.l0]; rw [if_neg (by omega), if_pos (by omega)]) (Ev.bind (trim1_tells (hl.app (Limbs.one (by omega) (by omega))) (by rw [List.length_append]; simp; omega)) (Ev.now _))
 | succ d ih =>
  intro i out c hi ho hl hc he
  have ra := rd_nonneg ha (i : Int)
  obtain ⟨x, hx⟩ := Int.eq_ofNat_of_zero_le ra.1
  have hxl : x < 4294967296 := by omega
  obtain ⟨o1, o2, o3⟩ := or_shl c x (n % 32) (by omega) hc.out hxl
  obtain ⟨s, hs⟩ : ∃ s, s = c + x * 2 ^ (n % 32) := ⟨_, rfl⟩
  rw [← hs] at o1 o2 o3
  have o3' := Hd.mk o3
  have key := ih (i + 1) (out ++ [((s % 4294967296 : Nat) : Int)]) (s / 4294967296) (by omega) (by rw [List.length_append, ho]; rfl) (hl.app (Limbs.one (by omega) (by omega))) o3' ⟨by
   rw [V_snoc, ho, V_take_succ' a i, ← Nat.add_assoc (n / 32), Nat.pow_succ, Nat.mul_assoc, Nat.add_assoc, ← Nat.mul_add, Int.toNat_natCast, Nat.mod_add_div, hs, hx, Int.toNat_natCast, Nat.mul_add, Nat.add_mul, ← he.out]
   rw [Nat.pow_add, pow_split n]
   simp only [Nat.mul_assoc, Nat.add_assoc, Nat.mul_comm, Nat.mul_left_comm]⟩
  refine Ev.step (fun k => ?_) key
  clear o3 hs he hc
  simp only [steelyardref02_Up.l0]
  rw [if_pos (by omega), if_pos (by omega), tmod32, u64 (x := ((n % 32 : Nat) : Int)) (by omega) (by omega), if_pos (by omega), if_pos (by omega), hx, u64 (x := ((x : Nat) : Int)) (by omega) (by omega), o1, w64 (by omega) (by omega)]
  rfl
theorem up2_tells {a : List Int} (ha : Limbs a) (hsa : a.length < 8796093022208) {n : Nat} (hn : n < 1099511627776) : Ev (fun k => steelyardref02_Up.f k a (n : Int)) (N (V a * 2 ^ n)) := by
 have hw0 : Hd (wrap64 (Int.tdiv (n : Int) 32) = ((n / 32 : Nat) : Int)) := ⟨by rw [tdiv32, w64 (by omega) (by omega)]⟩
 have hw1 : Hd (wrap64 (wrap64 (((n / 32 : Nat) : Int) + (a.length : Int)) + 1) = ((n / 32 + a.length + 1 : Nat) : Int)) := ⟨by
  rw [w64 (x := ((n / 32 : Nat) : Int) + (a.length : Int)) (by omega) (by omega), w64 (by omega) (by omega)]
  omega⟩
 have key := up2_loop a ha n hn hsa a.length 0 (List.replicate (n / 32) 0) 0 (by omega) (by simp) (Limbs.rep _) ⟨Nat.pow_pos (by omega)⟩ ⟨by rw [V_rep]; simp [V_nil]⟩
 refine Ev.congr (fun k => ?_) key
 unfold steelyardref02_Up.f
 rw [hw0.out, hw1.out, if_pos (by omega), if_pos (by omega), if_pos (by rw [Int.toNat_natCast]; omega), Int.toNat_natCast]
 rfl
theorem mul2_loop (a b : List Int) (ha : Limbs a) (hb : Limbs b) (hsa : a.length < 1073741824) (hsb : b.length < 1073741824) (d : Nat) : ∀ i : Nat, i + d = b.length →
  Ev (fun k => steelyardref02_Of.l0 k a b (N (V a * V (b.take i))) (i : Int)) (N (V a * V b)) := by
 have hbd : ∀ i : Nat, i ≤ b.length → len (V a * V (b.take i)) ≤ a.length + i := fun i hi => len_le.2 (by
  rw [Nat.pow_add]
  have h1 := V_lt ha
  have h2 := V_lt (hb.take i)
  rw [List.length_take, Nat.min_eq_left hi] at h2
  by_cases hz : V (b.take i) = 0
  ·rw [hz, Nat.mul_zero]; exact Nat.mul_pos (Nat.pow_pos (by omega)) (Nat.pow_pos (by omega))
  ·exact Nat.mul_lt_mul'' h1 h2)
 induction d with
 | zero =>
  intro i hi
  obtain rfl : i = b.length := by omega
  rw [List.take_length]
  have h1 := hbd b.length (Nat.le_refl _)
  rw [List.take_length] at h1
  have := trim1_tells (N_limbs (V a * V b)) (by rw [N_length]; omega)
  rw [V_N] at this
  exact Ev.step (f := fun k => (steelyardref01_Trim.f k (N (V a * V b))).bind fun t => some t) (fun k => by simp only [steelyardref02_Of.l0]; rw [if_neg (by omega)]) (Ev.bind this (Ev.now _))
 | succ d ih =>
  intro i hi
  have rb := rd_nonneg hb (i : Int)
  have h1 := hbd i (by omega)
  have hsm : len (V a * (rd b (i : Int)).toNat) ≤ a.length + 1 := len_le.2 (by
   rw [Nat.pow_succ]
   exact Nat.mul_lt_mul'' (V_lt ha) (by omega))
  have s1 := small2_tells ha (by omega) rb.1 rb.2
  have s2 := up2_tells (N_limbs (V a * (rd b (i : Int)).toNat)) (by rw [N_length]; omega) (n := 32 * i) (by omega)
  rw [V_N] at s2
  have hup : len (V a * (rd b (i : Int)).toNat * 2 ^ (32 * i)) ≤ a.length + 1 + i := len_le.2 (by
   rw [Nat.pow_add, pow32 i]
   have := len_le.1 hsm
   exact Nat.mul_lt_mul_of_pos_right this (Nat.pow_pos (by omega)))
  have s3 := add1_tells (N_limbs (V a * V (b.take i))) (N_limbs (V a * (rd b (i : Int)).toNat * 2 ^ (32 * i))) (by rw [N_length]; omega) (by rw [N_length]; omega)
  rw [V_N, V_N] at s3
  have s4 := ih (i + 1) (by omega)
  rw [V_take_succ' b i, Nat.mul_add, pow32 i, Nat.mul_comm (2 ^ (32 * i)), ← Nat.mul_assoc] at s4
  have e : Ev (fun k => (steelyardref02_Small.f k a (rd b (i : Int))).bind fun t => (steelyardref02_Up.f k t ((32 * i : Nat) : Int)).bind fun u => (steelyardref01_Add.f k (N (V a * V (b.take i))) u).bind fun q => steelyardref02_Of.l0 k a b q ((i + 1 : Nat) : Int)) (N (V a * V b)) :=
   Ev.bind (f := fun k t => (steelyardref02_Up.f k t ((32 * i : Nat) : Int)).bind fun u => (steelyardref01_Add.f k (N (V a * V (b.take i))) u).bind fun q => steelyardref02_Of.l0 k a b q ((i + 1 : Nat) : Int)) s1
    (Ev.bind (f := fun k u => (steelyardref01_Add.f k (N (V a * V (b.take i))) u).bind fun q => steelyardref02_Of.l0 k a b q ((i + 1 : Nat) : Int)) s2
     (Ev.bind (f := fun k q => steelyardref02_Of.l0 k a b q ((i + 1 : Nat) : Int)) s3 s4))
  refine Ev.step (fun k => ?_) e
  clear e s4 s3 s2 s1 hup hsm h1
  simp only [steelyardref02_Of.l0]
  rw [if_pos (by omega), if_pos (by omega), w64 (x := 32 * (i : Int)) (by omega) (by omega), w64 (by omega) (by omega)]
  rfl
theorem mul2_tells {a b : List Int} (ha : Limbs a) (hb : Limbs b) (hsa : a.length < 1073741824) (hsb : b.length < 1073741824) : Ev (fun k => steelyardref02_Of.f k a b) (N (V a * V b)) := by
 have := mul2_loop a b ha hb hsa hsb b.length 0 (by omega)
 rw [List.take_zero, V_nil, Nat.mul_zero, N_zero] at this
 exact Ev.congr (fun k => rfl) this
theorem down2_loop (a : List Int) (ha : Limbs a) (n : Nat) (hs : a.length < 1099511627776) (hn : n < 1099511627776) (hq : n / 32 ≤ a.length) (d : Nat) : ∀ (j : Nat) (out : List Int), n / 32 + j + d = a.length → out.length = j → Limbs out → Hd (V out = V a / 2 ^ n % 4294967296 ^ j) →
  Ev (fun k => steelyardref02_Down.l0 k a (n : Int) out ((n / 32 + j : Nat) : Int)) (N (V a / 2 ^ n)) := by
 have hdiv : V a / 2 ^ n = V a / 4294967296 ^ (n / 32) / 2 ^ (n % 32) := by rw [pow_split n, Nat.div_div_eq_div_mul]
 induction d with
 | zero =>
  intro j out hj ho hl he
  have h2 := he.out
  have h1 : V a / 2 ^ n < 4294967296 ^ j := by
   rw [hdiv]
   refine Nat.lt_of_le_of_lt (Nat.div_le_self _ _) (Nat.div_lt_of_lt_mul ?_)
   rw [← Nat.pow_add, show n / 32 + j = a.length from by omega]
   exact V_lt ha
  rw [Nat.mod_eq_of_lt h1] at h2
  rw [← h2]
  clear h1 h2 he hdiv
  exact Ev.step (f := fun k => (steelyardref01_Trim.f k out).bind fun t => some t) (fun k => by simp only [steelyardref02_Down.l0]; rw [if_neg (by omega)]) (Ev.bind (trim1_tells hl (by omega)) (Ev.now _))
 | succ d ih =>
  intro j out hj ho hl he
  have rt := rd_nonneg ha ((n / 32 + j : Nat) : Int)
  have rt1 := rd_nonneg ha ((n / 32 + j + 1 : Nat) : Int)
  obtain ⟨lo, hlo⟩ := Int.eq_ofNat_of_zero_le rt.1
  obtain ⟨hg, hhg⟩ := Int.eq_ofNat_of_zero_le rt1.1
  have hw : Hd (wrap64 (((n / 32 + j : Nat) : Int) + 1) = ((n / 32 + j + 1 : Nat) : Int)) := ⟨by rw [w64 (by omega) (by omega)]; rfl⟩
  have hd : Hd (V a / 2 ^ n / 4294967296 ^ j % 4294967296 = (hg * 4294967296 + lo) / 2 ^ (n % 32) % 4294967296) := by
   refine ⟨?_⟩
   rw [hdiv, shifted _ _ _ (Nat.mod_lt _ (by omega)), Nat.div_div_eq_div_mul (V a), ← Nat.pow_add, Nat.div_div_eq_div_mul (V a), ← Nat.pow_add, ← rd_V ha, ← rd_V ha, hlo, show n / 32 + (j + 1) = n / 32 + j + 1 from rfl, hhg]
   rfl
  have next : ∀ x : Int, x = (((hg * 4294967296 + lo) / 2 ^ (n % 32) % 4294967296 : Nat) : Int) → Ev (fun k => steelyardref02_Down.l0 k a (n : Int) (out ++ [x]) ((n / 32 + j + 1 : Nat) : Int)) (N (V a / 2 ^ n)) := by
   rintro x rfl
   refine ih (j + 1) _ (by omega) (by rw [List.length_append, ho]; rfl) (hl.app (Limbs.one (by omega) (by omega))) ⟨?_⟩
   rw [V_snoc, ho, he.out, V_mod_succ, hd.out, Int.toNat_natCast]
  have hsh : ∀ m : Nat, shr .u64 (m : Int) ((n % 32 : Nat) : Int) % 4294967296 = ((m / 2 ^ (n % 32) % 4294967296 : Nat) : Int) := by
   intro m
   rw [shr_cast .u64 _ _ (by show n % 32 ≤ 64; omega)]
   simp
  clear hdiv
  by_cases h1 : n / 32 + j + 1 < a.length
  ·refine Ev.step (fun k => ?_) (next _ rfl)
   simp only [steelyardref02_Down.l0]
   have hor := or_u64 hg lo (by omega) (by omega)
   have hor2 : Go.bits .or .u64 (lo : Int) ((hg : Int) * 4294967296) = ((hg * 4294967296 + lo : Nat) : Int) := by
    have := u64_or_nat lo (hg * 4294967296) (by omega) (by omega)
    rw [show ((hg * 4294967296 : Nat) : Int) = (hg : Int) * 4294967296 from by omega] at this
    rw [this, Nat.or_comm, nat_join 32 _ _ (by omega) (by omega)]
   rw [if_pos (by omega), if_pos (by omega), hw.out, if_pos (by omega), if_pos (by omega), tmod32, u64 (x := ((n % 32 : Nat) : Int)) (by omega) (by omega), if_pos (by omega), if_pos (by omega), hlo, hhg, u64 (x := ((hg : Nat) : Int)) (by omega) (by omega), u64 (x := ((lo : Nat) : Int)) (by omega) (by omega), u64 (x := ((hg : Nat) : Int) * 4294967296) (by omega) (by omega), hor2, hsh]
  ·have hz : hg = 0 := by have := rd_out a (n / 32 + j + 1) (by omega); omega
   refine Ev.step (fun k => ?_) (next _ rfl)
   simp only [steelyardref02_Down.l0]
   rw [if_pos (by omega), if_pos (by omega), hw.out, if_neg (by omega), tmod32, u64 (x := ((n % 32 : Nat) : Int)) (by omega) (by omega), if_pos (by omega), if_pos (by omega), hlo, u64 (x := ((lo : Nat) : Int)) (by omega) (by omega), hsh, hz, Nat.zero_mul, Nat.zero_add]
theorem down2_tells {a : List Int} (ha : Limbs a) (hsa : a.length < 1099511627776) {n : Nat} (hn : n < 1099511627776) : Ev (fun k => steelyardref02_Down.f k a (n : Int)) (N (V a / 2 ^ n)) := by
 have hw0 : Hd (wrap64 (Int.tdiv (n : Int) 32) = ((n / 32 : Nat) : Int)) := ⟨by rw [tdiv32, w64 (by omega) (by omega)]⟩
 by_cases h : n / 32 ≤ a.length
 ·have key := down2_loop a ha n hsa hn h (a.length - n / 32) 0 [] (by omega) rfl Limbs.nil ⟨by rw [Nat.pow_zero, Nat.mod_one]; rfl⟩
  refine Ev.congr (fun k => ?_) key
  unfold steelyardref02_Down.f
  rw [hw0.out]
  rfl
 ·have hz : V a / 2 ^ n = 0 := by
   rw [pow_split n, ← Nat.div_div_eq_div_mul, Nat.div_eq_of_lt (Nat.lt_of_lt_of_le (V_lt ha) (Nat.pow_le_pow_right (by omega) (by omega))), Nat.zero_div]
  rw [hz]
  have ht := trim1_tells Limbs.nil (by simp)
  rw [V_nil] at ht
  refine Ev.congr (f := fun k => steelyardref02_Down.l0 k a (n : Int) [] ((n / 32 : Nat) : Int)) (fun k => by unfold steelyardref02_Down.f; rw [hw0.out]) ?_
  exact Ev.step (f := fun k => (steelyardref01_Trim.f k []).bind fun t => some t) (fun k => by simp only [steelyardref02_Down.l0]; rw [if_neg (by omega)]) (Ev.bind ht (Ev.now _))
def T : ByteArray := ⟨#[0, 1, 2, 2, 3, 3, 3, 3, 4, 4, 4, 4, 4, 4, 4, 4, 5, 5, 5, 5, 5, 5, 5, 5, 5, 5, 5, 5, 5, 5, 5, 5, 6, 6, 6, 6, 6, 6, 6, 6, 6, 6, 6, 6, 6, 6, 6, 6, 6, 6, 6, 6, 6, 6, 6, 6, 6, 6, 6, 6, 6, 6, 6, 6, 7, 7, 7, 7, 7, 7, 7, 7, 7, 7, 7, 7, 7, 7, 7, 7, 7, 7, 7, 7, 7, 7, 7, 7, 7, 7, 7, 7, 7, 7, 7, 7, 7, 7, 7, 7, 7, 7, 7, 7, 7, 7, 7, 7, 7, 7, 7, 7, 7, 7, 7, 7, 7, 7, 7, 7, 7, 7, 7, 7, 7, 7, 7, 7, 8, 8, 8, 8, 8, 8, 8, 8, 8, 8, 8, 8, 8, 8, 8, 8, 8, 8, 8, 8, 8, 8, 8, 8, 8, 8, 8, 8, 8, 8, 8, 8, 8, 8, 8, 8, 8, 8, 8, 8, 8, 8, 8, 8, 8, 8, 8, 8, 8, 8, 8, 8, 8, 8, 8, 8, 8, 8, 8, 8, 8, 8, 8, 8, 8, 8, 8, 8, 8, 8, 8, 8, 8, 8, 8, 8, 8, 8, 8, 8, 8, 8, 8, 8, 8, 8, 8, 8, 8, 8, 8, 8, 8, 8, 8, 8, 8, 8, 8, 8, 8, 8, 8, 8, 8, 8, 8, 8, 8, 8, 8, 8, 8, 8, 8, 8, 8, 8, 8, 8, 8, 8, 8, 8, 8, 8, 8, 8]⟩
theorem T_all : (List.range 256).all (fun n => decide (n < 2 ^ (bt T (n : Int)).toNat) && decide ((bt T (n : Int)).toNat ≤ 8)) = true := by decide +kernel
theorem T_tells (n : Nat) (h : n < 256) : ∃ r : Nat, bt T (n : Int) = (r : Int) ∧ r ≤ 8 ∧ n < 2 ^ r := by
 have := List.all_eq_true.1 T_all n (List.mem_range.2 h)
 simp only [Bool.and_eq_true, decide_eq_true_eq] at this
 have b := bt_range T (n : Int)
 exact ⟨(bt T (n : Int)).toNat, by omega, this.2, this.1⟩
theorem len32_is (a0 : Int) : bits_Len32.f a0 = if a0 ≥ 65536 then (if (a0 / 65536) ≥ 256 then (if 0 ≤ (((a0 / 65536) / 256) % 256) then (if (((a0 / 65536) / 256) % 256) < 256 then (some (wrap64 ((16 + 8) + (wrap64 (bt T (((a0 / 65536) / 256) % 256)))))) else (none)) else (none)) else (if 0 ≤ ((a0 / 65536) % 256) then (if ((a0 / 65536) % 256) < 256 then (some (wrap64 (16 + (wrap64 (bt T ((a0 / 65536) % 256)))))) else (none)) else (none))) else (if a0 ≥ 256 then (if 0 ≤ ((a0 / 256) % 256) then (if ((a0 / 256) % 256) < 256 then (some (wrap64 ((0 + 8) + (wrap64 (bt T ((a0 / 256) % 256)))))) else (none)) else (none)) else (if 0 ≤ ((a0) % 256) then (if ((a0) % 256) < 256 then (some (wrap64 (0 + (wrap64 (bt T ((a0) % 256)))))) else (none)) else (none))) := rfl
theorem len32_tells (x : Nat) (h : x < 4294967296) : ∃ r : Nat, bits_Len32.f (x : Int) = some (r : Int) ∧ r ≤ 32 ∧ x < 2 ^ r := by
 rw [len32_is]
 by_cases h1 : 65536 ≤ x
 ·rw [if_pos (by omega)]
  by_cases h2 : 256 ≤ x / 65536
  ·obtain ⟨r, e, h3, h4⟩ := T_tells (x / 65536 / 256) (by omega)
   have : ((x : Int) / 65536 / 256) % 256 = ((x / 65536 / 256 : Nat) : Int) := by omega
   rw [if_pos (by omega), if_pos (by omega), if_pos (by omega), this, e, w64 (x := (r : Int)) (by omega) (by omega), w64 (by omega) (by omega)]
   refine ⟨24 + r, by simp, by omega, ?_⟩
   rw [Nat.pow_add]
   generalize 2 ^ r = p at *
   omega
  ·obtain ⟨r, e, h3, h4⟩ := T_tells (x / 65536) (by omega)
   have : ((x : Int) / 65536) % 256 = ((x / 65536 : Nat) : Int) := by omega
   rw [if_neg (by omega), if_pos (by omega), if_pos (by omega), this, e, w64 (x := (r : Int)) (by omega) (by omega), w64 (by omega) (by omega)]
   refine ⟨16 + r, by simp, by omega, ?_⟩
   rw [Nat.pow_add]
   generalize 2 ^ r = p at *
   omega
 ·rw [if_neg (by omega)]
  by_cases h2 : 256 ≤ x
  ·obtain ⟨r, e, h3, h4⟩ := T_tells (x / 256) (by omega)
   have : ((x : Int) / 256) % 256 = ((x / 256 : Nat) : Int) := by omega
   rw [if_pos (by omega), if_pos (by omega), if_pos (by omega), this, e, w64 (x := (r : Int)) (by omega) (by omega), w64 (by omega) (by omega)]
   refine ⟨8 + r, by simp, by omega, ?_⟩
   rw [Nat.pow_add]
   generalize 2 ^ r = p at *
   omega
  ·obtain ⟨r, e, h3, h4⟩ := T_tells x (by omega)
   have : (x : Int) % 256 = (x : Int) := by omega
   rw [if_neg (by omega), if_pos (by omega), if_pos (by omega), this, e, w64 (x := (r : Int)) (by omega) (by omega), w64 (by omega) (by omega)]
   exact ⟨r, by simp, by omega, h4⟩
theorem zeros_tells (x : Nat) (h : x < 4294967296) : ∃ s : Nat, bits_LeadingZeros32.f (x : Int) = some (s : Int) ∧ s ≤ 32 := by
 obtain ⟨r, e, h1, h2⟩ := len32_tells x h
 refine ⟨32 - r, ?_, by omega⟩
 unfold bits_LeadingZeros32.f
 rw [e, Option.bind_some, w64 (by omega) (by omega)]
 congr 1
 omega

theorem guess_num (top h l rest n Y U B : Nat) (hB : 0 < B) (ht : 0 < top) (hY : top * B ≤ Y) (hU : U = (h * 4294967296 + l) * B + rest) (hr : rest < B) : U / Y ≤ (h * 4294967296 + l) / top := by
 have h1 : U / Y ≤ U / (top * B) := Nat.div_le_div_left hY (Nat.mul_pos ht hB)
 have h2 : U / (top * B) = (h * 4294967296 + l) / top := by
  rw [Nat.mul_comm top B, ← Nat.div_div_eq_div_mul, hU, Nat.mul_comm _ B, Nat.mul_add_div hB, Nat.div_eq_of_lt hr, Nat.add_zero]
 omega
theorem guess_tells {u y : List Int} (hu : Limbs u) (hy : Limbs y) (n : Nat) (hn : y.length = n + 1) (hs : n < 1099511627776) (hl : u.length = n + 2) (htop : rd y (n : Int) ≠ 0) (hq : V u / V y < 4294967296) :
  ∃ q : Nat, quo_guess.f u y = some (q : Int) ∧ V u / V y ≤ q ∧ q < 4294967296 := by
 have r0 := rd_nonneg hu (n : Int)
 have r1 := rd_nonneg hu ((n + 1 : Nat) : Int)
 have rt := rd_nonneg hy (n : Int)
 obtain ⟨lo, hlo⟩ := Int.eq_ofNat_of_zero_le r0.1
 obtain ⟨hg, hhg⟩ := Int.eq_ofNat_of_zero_le r1.1
 obtain ⟨tp, htp⟩ := Int.eq_ofNat_of_zero_le rt.1
 have hnum : V u / V y ≤ (hg * 4294967296 + lo) / tp := by
  have e1 := V_take_drop y n (by omega)
  rw [drop_cons y n (by omega), show y.drop (n + 1) = [] from List.drop_eq_nil_of_le (by omega), V_cons, V_nil, htp, Int.toNat_natCast, Nat.mul_zero, Nat.add_zero] at e1
  have e2 := V_take_drop u n (by omega)
  rw [drop_cons u n (by omega), drop_cons u (n + 1) (by omega), show u.drop (n + 1 + 1) = [] from List.drop_eq_nil_of_le (by omega), V_cons, V_cons, V_nil, hlo, hhg, Int.toNat_natCast, Int.toNat_natCast, Nat.mul_zero, Nat.add_zero] at e2
  have e3 := V_lt (hu.take n)
  rw [List.length_take, Nat.min_eq_left (by omega)] at e3
  refine guess_num tp hg lo (V (u.take n)) n (V y) (V u) (4294967296 ^ n) (Nat.pow_pos (by omega)) (by omega) ?_ ?_ e3
  ·rw [e1, Nat.mul_comm]; exact Nat.le_add_left _ _
  ·rw [e2, Nat.mul_comm hg, Nat.add_comm (4294967296 * hg), Nat.mul_comm (lo + 4294967296 * hg), Nat.add_comm]
 have hor := or_u64 hg lo (by omega) (by omega)
 have hdv : Int.tdiv ((hg * 4294967296 + lo : Nat) : Int) (tp : Int) = (((hg * 4294967296 + lo) / tp : Nat) : Int) := by
  rw [Int.tdiv_eq_ediv_of_nonneg (by omega)]; rfl
 have hdle : (hg * 4294967296 + lo) / tp ≤ hg * 4294967296 + lo := Nat.div_le_self _ _
 have hw0 : Hd (wrap64 ((y.length : Int) - 1) = (n : Int)) := ⟨by rw [w64 (by omega) (by omega)]; omega⟩
 have hyl : (y.length : Int) = ((n + 1 : Nat) : Int) := by rw [hn]
 generalize (hg * 4294967296 + lo) / tp = Q at hnum hdle hdv
 generalize V u / V y = D at hnum hq
 refine ⟨min Q 4294967295, ?_, ?_, ?_⟩
 ·unfold quo_guess.f
  rw [hw0.out, hyl, htp, hlo, hhg, if_pos (by omega), if_pos (by omega), if_pos (by omega), if_pos (by omega), if_pos (by omega), u64 (x := ((tp : Nat) : Int)) (by omega) (by omega), if_neg (by omega),
   u64 (x := ((hg : Nat) : Int)) (by omega) (by omega), u64 (x := ((lo : Nat) : Int)) (by omega) (by omega), u64 (x := ((hg : Nat) : Int) * 4294967296) (by omega) (by omega), hor, hdv, u64 (by omega) (by omega)]
  congr 1
  clear hor hdv hw0 hyl
  unfold mn
  split <;> omega
 ·clear hor hdv hw0 hyl
  omega
 ·clear hor hdv hw0 hyl
  omega
theorem less_tells {u y : List Int} (hu : Limbs u) (hy : Limbs y) (hsu : u.length < 549755813888) (hsy : y.length < 549755813888) (hY : 0 < V y) (d : Nat) : ∀ q : Nat, V u / V y + d = q → q < 4294967296 →
  Ev (fun k => quo_less.l0 k u y (q : Int)) (N (V u % V y), ((V u / V y : Nat) : Int)) := by
 have hlen : ∀ q : Nat, q < 4294967296 → len (V y * q) ≤ y.length + 1 := fun q hq => len_le.2 (by
  rw [Nat.pow_succ]
  exact Nat.mul_lt_mul'' (V_lt hy) hq)
 induction d with
 | zero =>
  intro q hq h1
  have s1 := small_tells hy (by omega) (v := (q : Int)) (by omega) (by omega)
  rw [Int.toNat_natCast] at s1
  have h2 := hlen q h1
  have s2 := sub_tells hu (N_limbs (V y * q)) (by omega) (by rw [N_length]; omega)
  rw [V_N] at s2
  have h3 : V y * q ≤ V u := by rw [← hq, Nat.add_zero, Nat.mul_comm]; exact Nat.div_mul_le_self _ _
  have h4 : V u - V y * q = V u % V y := by
   have := Nat.div_add_mod (V u) (V y)
   rw [Nat.add_zero] at hq
   rw [hq] at this
   omega
  rw [if_neg (by omega), h4] at s2
  rw [Nat.add_zero] at hq
  rw [hq]
  refine Ev.step (f := fun k => (mul_Small.f k y (q : Int)).bind fun t => (nat_Sub.f k u t).bind fun bt => if bt.2 = true then some (bt.1, (q : Int)) else quo_less.l0 k u y (((q : Int) - 1) % 4294967296)) (fun k => rfl) ?_
  exact Ev.bind (f := fun k t => (nat_Sub.f k u t).bind fun bt => if bt.2 = true then some (bt.1, (q : Int)) else quo_less.l0 k u y (((q : Int) - 1) % 4294967296)) s1
   (Ev.bind (f := fun k (bt : List Int × Bool) => if bt.2 = true then some (bt.1, (q : Int)) else quo_less.l0 k u y (((q : Int) - 1) % 4294967296)) s2 (Ev.congr (fun k => if_pos rfl) (Ev.now _)))
 | succ d ih =>
  intro q hq h1
  have s1 := small_tells hy (by omega) (v := (q : Int)) (by omega) (by omega)
  rw [Int.toNat_natCast] at s1
  have h2 := hlen q h1
  have s2 := sub_tells hu (N_limbs (V y * q)) (by omega) (by rw [N_length]; omega)
  rw [V_N] at s2
  have h3 : V u < V y * q := by
   have := Nat.lt_mul_div_succ (V u) hY
   refine Nat.lt_of_lt_of_le this (Nat.mul_le_mul_left _ ?_)
   generalize V u / V y = D at *
   omega
  rw [if_pos h3] at s2
  have hq2 : 0 < q ∧ V u / V y + d = q - 1 := by
   clear s1 s2 ih h3 h2 hlen
   generalize V u / V y = D at *
   omega
  have s3 := ih (q - 1) hq2.2 (by omega)
  refine Ev.step (f := fun k => (mul_Small.f k y (q : Int)).bind fun t => (nat_Sub.f k u t).bind fun bt => if bt.2 = true then some (bt.1, (q : Int)) else quo_less.l0 k u y (((q : Int) - 1) % 4294967296)) (fun k => rfl) ?_
  refine Ev.bind (f := fun k t => (nat_Sub.f k u t).bind fun bt => if bt.2 = true then some (bt.1, (q : Int)) else quo_less.l0 k u y (((q : Int) - 1) % 4294967296)) s1
   (Ev.bind (f := fun k (bt : List Int × Bool) => if bt.2 = true then some (bt.1, (q : Int)) else quo_less.l0 k u y (((q : Int) - 1) % 4294967296)) s2 (Ev.congr (fun k => ?_) s3))
  rw [if_neg (by simp), show ((q : Int) - 1) % 4294967296 = ((q - 1 : Nat) : Int) from by clear s1 s2 s3 ih h3 h2 hlen; have := hq2.1; clear hq2 hq; omega]
theorem rd_top {y : Nat} (hy : y ≠ 0) : ∃ n : Nat, len y = n + 1 ∧ rd (N y) (n : Int) ≠ 0 := by
 have h0 : len y ≠ 0 := fun h => hy (len_eq_zero.1 h)
 obtain ⟨n, hn⟩ := Nat.exists_eq_succ_of_ne_zero h0
 refine ⟨n, hn, ?_⟩
 have hne : N y ≠ [] := fun h => h0 (by unfold len; rw [h]; rfl)
 have := N_last y hne
 rw [List.getLast_eq_getElem] at this
 have hlen : (N y).length = n + 1 := hn
 rw [rd_cast, List.getD_eq_getElem?_getD, List.getElem?_eq_getElem (by omega), Option.getD_some]
 have e : (N y).length - 1 = n := by omega
 simp only [e] at this
 exact this
theorem put_V {r : List Int} (hr : Limbs r) (n : Nat) (hn : r.length ≤ n + 1) {c : Int} (h0 : 0 ≤ c) (h1 : c < 4294967296) :
  V ((splice (List.replicate (n + 2) (0 : Int)) 1 r).set 0 c) = c.toNat + 4294967296 * V r ∧ ((splice (List.replicate (n + 2) (0 : Int)) 1 r).set 0 c).length = n + 2 ∧ Limbs ((splice (List.replicate (n + 2) (0 : Int)) 1 r).set 0 c) := by
 have hl : (splice (List.replicate (n + 2) (0 : Int)) 1 r).length = n + 2 := by rw [splice_length, List.length_replicate]
 have hs : Limbs (splice (List.replicate (n + 2) (0 : Int)) 1 r) := (Limbs.rep _).splice hr 1
 have hv : V (splice (List.replicate (n + 2) (0 : Int)) 1 r) = 4294967296 * V r := by
  rw [V_splice 1 (by rw [List.length_replicate]; omega), List.take_replicate, List.drop_replicate, V_rep, V_rep]
  simp
 refine ⟨?_, by rw [List.length_set, hl], hs.set 0 h0 h1⟩
 have e := V_set (l := splice (List.replicate (n + 2) (0 : Int)) 1 r) 0 c (by omega)
 have e2 := rd_V hs 0
 rw [hv, Nat.pow_zero, Nat.div_one, Nat.mul_mod_right] at e2
 rw [e2, hv] at e
 omega
theorem step_num (c X' Y : Nat) (hc : c < 4294967296) (hY : 0 < Y) :
  (c + 4294967296 * (X' % Y)) / Y < 4294967296 ∧ (c + 4294967296 * X') % Y = (c + 4294967296 * (X' % Y)) % Y ∧ (c + 4294967296 * X') / Y = (c + 4294967296 * (X' % Y)) / Y + 4294967296 * (X' / Y) := by
 have h := Nat.mod_lt X' hY
 have e : c + 4294967296 * X' = (c + 4294967296 * (X' % Y)) + Y * (4294967296 * (X' / Y)) := by
  have h2 := Nat.div_add_mod X' Y
  rw [Nat.mul_left_comm]
  generalize Y * (X' / Y) = p at *
  omega
 refine ⟨Nat.div_lt_of_lt_mul ?_, ?_, ?_⟩
 ·generalize X' % Y = r at *
  clear e
  have : 4294967296 * (r + 1) ≤ 4294967296 * Y := Nat.mul_le_mul_left _ (by omega)
  rw [Nat.mul_comm Y]
  omega
 ·rw [e, Nat.add_mul_mod_self_left]
 ·rw [e, Nat.add_mul_div_left _ _ hY]
theorem rem_loop (a y : List Int) (s : Nat) (hs : s ≤ 32) (ha : Limbs a) (hy : Limbs y) (n : Nat) (hn : y.length = n + 1) (hsn : n < 137438953472) (hsa : a.length < 137438953472) (htop : rd y (n : Int) ≠ 0) (hY : 0 < V y) :
  ∀ (i : Nat) (out : List Int), i ≤ a.length → out.length = a.length → Limbs out → Hd (V (out.drop i) = V (a.drop i) / V y) →
  Ev (fun k => quo_Rem.l0 k a y out (s : Int) (N (V (a.drop i) % V y)) ((i : Int) - 1)) (N (V a / V y), N (V a % V y / 2 ^ s), true) := by
 intro i
 induction i with
 | zero =>
  intro out hi ho hl he
  have he := he.out
  rw [List.drop_zero, List.drop_zero] at he
  rw [List.drop_zero]
  have hrl : len (V a % V y) ≤ n + 1 := by
   have := len_mono (Nat.le_of_lt (Nat.mod_lt (V a) hY))
   have h2 := len_V hy
   omega
  have s1 := trim_tells hl (by omega)
  rw [he] at s1
  have s2 := shift_down (N_limbs (V a % V y)) (by rw [N_length]; omega) (n := s) (by omega)
  rw [V_N] at s2
  refine Ev.step (f := fun k => (nat_Trim.f k out).bind fun t => (mul_Shift.f k (N (V a % V y)) (-(s : Int))).bind fun u => some (t, u, true)) (fun k => ?_) ?_
  ·simp only [quo_Rem.l0]
   rw [if_neg (by omega), w64 (by omega) (by omega)]
  ·exact Ev.bind (f := fun k t => (mul_Shift.f k (N (V a % V y)) (-(s : Int))).bind fun u => some (t, u, true)) s1 (Ev.bind (f := fun _ u => some (_, u, true)) s2 (Ev.now _))
 | succ i ih =>
  intro out hi ho hl he
  have rc := rd_nonneg ha (i : Int)
  have hcut : V (a.drop i) = (rd a (i : Int)).toNat + 4294967296 * V (a.drop (i + 1)) := by rw [drop_cons a i (by omega), V_cons]
  have sn := step_num (rd a (i : Int)).toNat (V (a.drop (i + 1))) (V y) (by omega) hY
  rw [← hcut] at sn
  have hrl : (N (V (a.drop (i + 1)) % V y)).length ≤ n + 1 := by
   rw [N_length]
   have := len_mono (Nat.le_of_lt (Nat.mod_lt (V (a.drop (i + 1))) hY))
   have h2 := len_V hy
   omega
  obtain ⟨pv, pl, ph⟩ := put_V (N_limbs (V (a.drop (i + 1)) % V y)) n hrl rc.1 rc.2
  rw [V_N] at pv
  obtain ⟨q, hq, hq1, hq2⟩ := guess_tells ph hy n hn (by omega) pl htop (by rw [pv]; exact sn.1)
  obtain ⟨d, hd⟩ := Nat.exists_eq_add_of_le hq1
  have s1 := less_tells ph hy (by omega) (by omega) hY d q hd.symm hq2
  rw [pv, ← sn.2.1] at s1
  have hQ := sn.1
  have hnext : ∀ Q : Nat, Q = ((rd a (i : Int)).toNat + 4294967296 * (V (a.drop (i + 1)) % V y)) / V y → Ev (fun k => quo_Rem.l0 k a y (out.set i (Q : Int)) (s : Int) (N (V (a.drop i) % V y)) ((i : Int) - 1)) (N (V a / V y), N (V a % V y / 2 ^ s), true) := by
   intro Q hQe
   have hQ2 : Q < 4294967296 := by rw [hQe]; exact hQ
   refine ih (out.set i (Q : Int)) (by omega) (by rw [List.length_set, ho]) (hl.set i (by omega) (by omega)) ⟨?_⟩
   rw [drop_cons _ i (by rw [List.length_set]; omega), V_cons, rd_set_self out i (Q : Int) (by omega), Int.toNat_natCast, List.drop_set_of_lt (by omega), he.out, sn.2.2, hQe]
  have s2 := hnext _ rfl
  generalize ((rd a (i : Int)).toNat + 4294967296 * (V (a.drop (i + 1)) % V y)) / V y = Q at s1 s2
  have hw0 : Hd (wrap64 ((y.length : Int) + 1) = ((n + 2 : Nat) : Int)) := ⟨by rw [w64 (by omega) (by omega)]; omega⟩
  have hw1 : Hd (wrap64 ((i : Int) - 1) = (i : Int) - 1) := ⟨by rw [w64 (by omega) (by omega)]⟩
  refine Ev.step (f := fun k => (quo_less.l0 k ((splice (List.replicate (n + 2) (0 : Int)) 1 (N (V (a.drop (i + 1)) % V y))).set 0 (rd a (i : Int))) y (q : Int)).bind fun bt => quo_Rem.l0 k a y (out.set i bt.2) (s : Int) bt.1 ((i : Int) - 1)) (fun k => ?_)
   (Ev.bind (f := fun k (bt : List Int × Int) => quo_Rem.l0 k a y (out.set i bt.2) (s : Int) bt.1 ((i : Int) - 1)) s1 s2)
  clear s1 s2 hnext sn ih he hd hq1 hq2 pv hQ hcut
  simp only [quo_Rem.l0]
  have hi1 : (((i + 1 : Nat) : Int) - 1) = (i : Int) := by omega
  rw [hi1, hw0.out, hw1.out, if_pos (by omega), if_pos (by omega), if_pos (by omega), Option.bind_some, List.length_replicate, Int.toNat_natCast, if_pos (by omega), if_pos (by omega), if_pos (by omega), if_pos (by omega), Option.bind_some]
  have hz : (0 : Int).toNat = 0 := rfl
  rw [hz, hq, Option.bind_some, Int.toNat_natCast, ho]
  simp only [if_pos (show (i : Int) < (a.length : Int) from by omega)]
  rfl
theorem rem_tells {a b : List Int} (ha : Limbs a) (hb : Limbs b) (hsa : a.length < 68719476736) (hsb : b.length < 68719476736) :
  Ev (fun k => quo_Rem.f k a b) (if V b = 0 then ([], [], false) else (N (V a / V b), N (V a % V b), true)) := by
 have s1 := trim_tells hb (by omega)
 by_cases hz : V b = 0
 ·rw [if_pos hz]
  rw [hz, N_zero] at s1
  exact Ev.bind s1 (Ev.congr (fun k => by rw [if_pos (by rfl)]) (Ev.now _))
 ·rw [if_neg hz]
  obtain ⟨m, hm, htop⟩ := rd_top hz
  have hlb := len_V hb
  have rt := rd_nonneg (N_limbs (V b)) (m : Int)
  obtain ⟨tp, htp⟩ := Int.eq_ofNat_of_zero_le rt.1
  obtain ⟨s, hs, hs1⟩ := zeros_tells tp (by omega)
  have hp : 0 < 2 ^ s := Nat.pow_pos (by omega)
  have hp32 : 2 ^ s ≤ 4294967296 := by rw [show 4294967296 = 2 ^ 32 from rfl]; exact Nat.pow_le_pow_right (by omega) hs1
  have s2 := shift_up ha (by omega) (n := s) (by omega)
  have s3 := shift_up (N_limbs (V b)) (by rw [N_length]; omega) (n := s) (by omega)
  rw [V_N] at s3
  have hla : len (V a * 2 ^ s) ≤ a.length + 1 := len_le.2 (by
   rw [Nat.pow_succ]
   exact Nat.lt_of_lt_of_le (Nat.mul_lt_mul_of_pos_right (V_lt ha) hp) (Nat.mul_le_mul_left _ hp32))
  have hly : len (V b * 2 ^ s) ≤ b.length + 1 := len_le.2 (by
   rw [Nat.pow_succ]
   exact Nat.lt_of_lt_of_le (Nat.mul_lt_mul_of_pos_right (V_lt hb) hp) (Nat.mul_le_mul_left _ hp32))
  have hY : V b * 2 ^ s ≠ 0 := Nat.mul_ne_zero hz (by omega)
  obtain ⟨n, hn, ht⟩ := rd_top hY
  have s4 := rem_loop (N (V a * 2 ^ s)) (N (V b * 2 ^ s)) s hs1 (N_limbs _) (N_limbs _) n hn (by omega) (by rw [N_length]; omega) ht (by rw [V_N]; omega) (N (V a * 2 ^ s)).length (List.replicate (N (V a * 2 ^ s)).length 0) (Nat.le_refl _) (by rw [List.length_replicate]) (Limbs.rep _)
   ⟨by rw [List.drop_eq_nil_of_le (by rw [List.length_replicate]; omega), List.drop_eq_nil_of_le (by omega), V_nil]; simp⟩
  rw [List.drop_eq_nil_of_le (by omega), V_nil, Nat.zero_mod, N_zero, V_N, V_N, Nat.mul_div_mul_right _ _ hp, Nat.mul_mod_mul_right, Nat.mul_div_cancel _ hp] at s4
  have hlN : (N (V b)).length = m + 1 := hm
  have hw0 : Hd (wrap64 (((m + 1 : Nat) : Int) - 1) = (m : Int)) := ⟨by rw [w64 (by omega) (by omega)]; omega⟩
  have hw1 : Hd (wrap64 (((N (V a * 2 ^ s)).length : Int) - 1) = ((N (V a * 2 ^ s)).length : Int) - 1) := ⟨by rw [N_length, w64 (by omega) (by omega)]⟩
  have hlA : (N (V a * 2 ^ s)).length ≤ 70368744177664 := by rw [N_length]; omega
  refine Ev.bind s1 ?_
  refine Ev.congr (f := fun k => (mul_Shift.f k a (s : Int)).bind fun t218 => (mul_Shift.f k (N (V b)) (s : Int)).bind fun t221 => if 0 ≤ (t218.length : Int) then (if ((t218.length : Int) : Int).toNat ≤ 70368744177664 then quo_Rem.l0 k t218 t221 (List.replicate ((t218.length : Int) : Int).toNat 0) (s : Int) ([] : List Int) (wrap64 ((t218.length : Int) - 1)) else none) else none) (fun k => ?_) ?_
  ·rw [hlN, hw0.out, if_neg (by omega), if_pos (by omega), if_pos (by omega), htp]
   show (bits_LeadingZeros32.f (tp : Int)).bind _ = _
   rw [hs, Option.bind_some]
  ·refine Ev.bind (f := fun k t218 => (mul_Shift.f k (N (V b)) (s : Int)).bind fun t221 => if 0 ≤ (t218.length : Int) then (if ((t218.length : Int) : Int).toNat ≤ 70368744177664 then quo_Rem.l0 k t218 t221 (List.replicate ((t218.length : Int) : Int).toNat 0) (s : Int) ([] : List Int) (wrap64 ((t218.length : Int) - 1)) else none) else none) s2 ?_
   refine Ev.bind (f := fun k t221 => if 0 ≤ ((N (V a * 2 ^ s)).length : Int) then (if (((N (V a * 2 ^ s)).length : Int) : Int).toNat ≤ 70368744177664 then quo_Rem.l0 k (N (V a * 2 ^ s)) t221 (List.replicate (((N (V a * 2 ^ s)).length : Int) : Int).toNat 0) (s : Int) ([] : List Int) (wrap64 (((N (V a * 2 ^ s)).length : Int) - 1)) else none) else none) s3 ?_
   refine Ev.congr (fun k => ?_) s4
   rw [hw1.out, if_pos (by omega), Int.toNat_natCast, if_pos hlA]
theorem gcd_loop (x y : Nat) (hx : len x < 68719476736) (hy : len y < 68719476736) : Ev (fun k => quo_Gcd.l0 k (N x) (N y)) (N (Nat.gcd x y)) := by
 induction y using Nat.strongRecOn generalizing x with
 | ind y ih =>
  by_cases hz : y = 0
  ·subst hz
   rw [Nat.gcd_zero_right]
   refine Ev.step (f := fun _ => some (N x)) (fun k => ?_) (Ev.now _)
   simp only [quo_Gcd.l0]
   rw [N_zero, if_neg (by simp)]
  ·have hlt : x % y < y := Nat.mod_lt x (by omega)
   have hlm := len_mono (Nat.le_of_lt hlt)
   have s1 := rem_tells (N_limbs x) (N_limbs y) (by rw [N_length]; omega) (by rw [N_length]; omega)
   rw [V_N, V_N, if_neg hz] at s1
   have s2 := ih (x % y) hlt y hy (by omega)
   rw [Nat.gcd_comm y, ← Nat.gcd_rec, Nat.gcd_comm] at s2
   refine Ev.step (f := fun k => (quo_Rem.f k (N x) (N y)).bind fun bt => quo_Gcd.l0 k (N y) bt.2.1) (fun k => ?_) (Ev.bind (f := fun k (bt : List Int × List Int × Bool) => quo_Gcd.l0 k (N y) bt.2.1) s1 s2)
   simp only [quo_Gcd.l0]
   have : len y ≠ 0 := fun h => hz (len_eq_zero.1 h)
   rw [N_length, if_pos (by omega)]
theorem gcd_tells {a b : List Int} (ha : Limbs a) (hb : Limbs b) (hsa : a.length < 68719476736) (hsb : b.length < 68719476736) : Ev (fun k => quo_Gcd.f k a b) (N (Nat.gcd (V a) (V b))) := by
 have := len_V ha
 have := len_V hb
 exact Ev.bind (trim_tells ha (by omega)) (Ev.bind (trim_tells hb (by omega)) (gcd_loop _ _ (by omega) (by omega)))
theorem set_bit {out : List Int} (hl : Limbs out) (i : Nat) (hi : i / 32 < out.length) (Q : Nat) (hv : V out = Q * 2 ^ (i + 1)) :
  ∃ x : Int, Go.bits .or .u32 (rd out ((i / 32 : Nat) : Int)) (shl .u32 1 ((i % 32 : Nat) : Int)) = x ∧ 0 ≤ x ∧ x < 4294967296 ∧ V (out.set (i / 32) x) = (2 * Q + 1) * 2 ^ i := by
 have hr := rd_nonneg hl ((i / 32 : Nat) : Int)
 obtain ⟨l, hlx⟩ := Int.eq_ofNat_of_zero_le hr.1
 have hr32 : i % 32 < 32 := Nat.mod_lt _ (by omega)
 have hp : 2 ^ (i % 32) < 4294967296 := by rw [show 4294967296 = 2 ^ 32 from rfl]; exact Nat.pow_lt_pow_right (by omega) hr32
 have hlV := rd_V hl (i / 32)
 rw [hlx, Int.toNat_natCast] at hlV
 have hdiv : l % 2 ^ (i % 32 + 1) = 0 := by
  have e : V out / 4294967296 ^ (i / 32) = Q * 2 ^ (i % 32 + 1) := by
   rw [hv, Nat.pow_succ, pow_split i, show Q * (4294967296 ^ (i / 32) * 2 ^ (i % 32) * 2) = 4294967296 ^ (i / 32) * (Q * 2 ^ (i % 32 + 1)) from by rw [Nat.pow_succ]; simp [Nat.mul_left_comm, Nat.mul_comm, Nat.mul_assoc], Nat.mul_div_cancel_left _ (Nat.pow_pos (by omega))]
  rw [hlV, e, show 4294967296 = 2 ^ 32 from rfl, Nat.mod_mod_of_dvd _ (Nat.pow_dvd_pow 2 (by omega)), Nat.mul_mod_left]
 have hor := u32_or_nat l (2 ^ (i % 32)) (by omega) hp
 have hlt : l ||| 2 ^ (i % 32) < 2 ^ 32 := Nat.or_lt_two_pow (by omega) hp
 rw [nat_join (i % 32 + 1) _ _ hdiv (Nat.pow_lt_pow_right (by omega) (by omega))] at hor hlt
 refine ⟨((l + 2 ^ (i % 32) : Nat) : Int), ?_, by omega, by omega, ?_⟩
 ·rw [hlx, shl_one _ hr32]; exact hor
 ·have e := V_set (i / 32) ((l + 2 ^ (i % 32) : Nat) : Int) hi
  rw [hlx, Int.toNat_natCast, Int.toNat_natCast, Nat.mul_add, ← pow_split, hv, Nat.pow_succ] at e
  rw [Nat.add_mul, Nat.one_mul, Nat.mul_comm 2 Q, Nat.mul_assoc, Nat.mul_comm 2]
  generalize 4294967296 ^ (i / 32) * l = z at e
  generalize Q * (2 ^ i * 2) = z2 at e ⊢
  generalize V (out.set (i / 32) _) = z3 at e ⊢
  generalize 2 ^ i = z4 at e ⊢
  omega
theorem rem3_loop (A b M : Nat) (hb : 0 < b) (hM : M < 1099511627776) (hlA : len A < 1099511627776) (hlb : len (b * 2 ^ M) < 1099511627776) :
  ∀ (j : Nat) (out : List Int) (Q r : Nat), j ≤ M + 1 → out.length = M / 32 + 1 → Limbs out → Hd (V out = Q * 2 ^ j) → Hd (r < b * 2 ^ j) → Hd (A = Q * (b * 2 ^ j) + r) →
  Ev (fun k => steelyardref03_Rem.l0 k (N r) out (N (b * 2 ^ j / 2)) ((j : Int) - 1)) (N (A / b), N (A % b), true) := by
 intro j
 induction j with
 | zero =>
  intro out Q r hj ho hl hv hr hA
  have hv := hv.out
  have hr := hr.out
  have hA := hA.out
  rw [Nat.pow_zero, Nat.mul_one] at hv hr hA
  have hq : A / b = Q := by rw [hA, Nat.mul_comm, Nat.mul_add_div hb, Nat.div_eq_of_lt hr, Nat.add_zero]
  have hm : A % b = r := by rw [hA, Nat.mul_comm, Nat.mul_add_mod, Nat.mod_eq_of_lt hr]
  have s1 := trim1_tells hl (by omega)
  rw [hv] at s1
  rw [hq, hm]
  refine Ev.step (f := fun k => (steelyardref01_Trim.f k out).bind fun t => some (t, N r, true)) (fun k => ?_) (Ev.bind (f := fun _ t => some (t, N r, true)) s1 (Ev.now _))
  simp only [steelyardref03_Rem.l0]
  rw [if_neg (by omega)]
 | succ j ih =>
  intro out Q r hj ho hl hv hr hA
  have hhalf : b * 2 ^ (j + 1) / 2 = b * 2 ^ j := by rw [Nat.pow_succ, ← Nat.mul_assoc, Nat.mul_div_cancel _ (by omega)]
  have h2 : b * 2 ^ (j + 1) = b * 2 ^ j * 2 := by rw [Nat.pow_succ, Nat.mul_assoc]
  have hlx : len (b * 2 ^ j) < 1099511627776 := by
   have : len (b * 2 ^ j) ≤ len (b * 2 ^ M) := len_mono (Nat.mul_le_mul_left _ (Nat.pow_le_pow_right (by omega) (by omega)))
   omega
  have hlr : len r ≤ len A := len_mono (by rw [hA.out]; exact Nat.le_add_left _ _)
  have s1 := cmp1_tells (N_limbs r) (N_limbs (b * 2 ^ j)) (by rw [N_length]; omega) (by rw [N_length]; omega)
  rw [V_N, V_N] at s1
  have s2 := down2_tells (N_limbs (b * 2 ^ j)) (by rw [N_length]; omega) (n := 1) (by omega)
  rw [V_N, Nat.pow_one] at s2
  have hq32 : j / 32 ≤ M / 32 := Nat.div_le_div_right (by omega)
  have hw0 : Hd (wrap64 ((j : Int) - 1) = (j : Int) - 1) := ⟨by rw [w64 (by omega) (by omega)]⟩
  have hj1 : ((j + 1 : Nat) : Int) - 1 = (j : Int) := by omega
  have hw1 : Hd (wrap64 (Int.tdiv (j : Int) 32) = ((j / 32 : Nat) : Int)) := ⟨by rw [tdiv32, w64 (by omega) (by omega)]⟩
  have hw2 : Hd (IntKind.u64.wrap (Int.tmod (j : Int) 32) = ((j % 32 : Nat) : Int)) := ⟨by rw [tmod32, u64 (by omega) (by omega)]⟩
  rw [hhalf, hj1]
  obtain ⟨x, hx, x0, x1, xv⟩ := set_bit hl j (by omega) Q hv.out
  have hstep : ∀ k, steelyardref03_Rem.l0 (k + 1) (N r) out (N (b * 2 ^ j)) (j : Int) = (steelyardref01_Cmp.f k (N r) (N (b * 2 ^ j))).bind fun t => if t ≥ 0 then ((steelyardref01_Sub.f k (N r) (N (b * 2 ^ j))).bind fun t414 => (steelyardref02_Down.f k (N (b * 2 ^ j)) ((1 : Nat) : Int)).bind fun t419 => steelyardref03_Rem.l0 k t414 (out.set (j / 32) x) t419 ((j : Int) - 1)) else (steelyardref02_Down.f k (N (b * 2 ^ j)) ((1 : Nat) : Int)).bind fun t419 => steelyardref03_Rem.l0 k (N r) out t419 ((j : Int) - 1) := by
   intro k
   clear s1 s2 ih hv hr hA xv h2 hhalf hlx hlr
   simp only [steelyardref03_Rem.l0]
   rw [if_pos (by omega), hw0.out, hw1.out, hw2.out, Int.toNat_natCast, hx]
   simp only [if_pos (show 0 ≤ ((j / 32 : Nat) : Int) from by omega), if_pos (show ((j / 32 : Nat) : Int) < (out.length : Int) from by omega), if_pos (show 0 ≤ ((j % 32 : Nat) : Int) from by omega)]
   rfl
  by_cases hc : b * 2 ^ j ≤ r
  ·have s3 := sub1_tells (N_limbs r) (N_limbs (b * 2 ^ j)) (by rw [N_length]; omega) (by rw [V_N, V_N]; exact hc)
   rw [V_N, V_N] at s3
   have s4 := ih (out.set (j / 32) x) (2 * Q + 1) (r - b * 2 ^ j) (by omega) (by rw [List.length_set, ho]) (hl.set _ x0 x1) ⟨xv⟩ ⟨by have := hr.out; rw [h2] at this; generalize b * 2 ^ j = z at *; omega⟩
    ⟨by
     have := hA.out
     rw [h2, ← Nat.mul_assoc] at this
     rw [Nat.add_mul, Nat.one_mul, Nat.mul_comm 2 Q, Nat.mul_assoc, Nat.mul_comm 2, ← Nat.mul_assoc]
     generalize Q * (b * 2 ^ j) * 2 = z2 at *
     generalize b * 2 ^ j = z at *
     omega⟩
   refine Ev.step (fun k => hstep k) ?_
   refine Ev.bind (f := fun k t => if t ≥ 0 then ((steelyardref01_Sub.f k (N r) (N (b * 2 ^ j))).bind fun t414 => (steelyardref02_Down.f k (N (b * 2 ^ j)) ((1 : Nat) : Int)).bind fun t419 => steelyardref03_Rem.l0 k t414 (out.set (j / 32) x) t419 ((j : Int) - 1)) else (steelyardref02_Down.f k (N (b * 2 ^ j)) ((1 : Nat) : Int)).bind fun t419 => steelyardref03_Rem.l0 k (N r) out t419 ((j : Int) - 1)) s1 ?_
   have hcm : cmpN r (b * 2 ^ j) ≥ 0 := by
    unfold cmpN
    rw [if_neg (by omega)]
    split <;> omega
   refine Ev.congr (fun k => if_pos hcm) ?_
   exact Ev.bind (f := fun k t414 => (steelyardref02_Down.f k (N (b * 2 ^ j)) ((1 : Nat) : Int)).bind fun t419 => steelyardref03_Rem.l0 k t414 (out.set (j / 32) x) t419 ((j : Int) - 1)) s3
    (Ev.bind (f := fun k t419 => steelyardref03_Rem.l0 k (N (r - b * 2 ^ j)) (out.set (j / 32) x) t419 ((j : Int) - 1)) s2 s4)
  ·have s4 := ih out (2 * Q) r (by omega) ho hl ⟨by rw [hv.out, Nat.pow_succ, Nat.mul_comm 2 Q, Nat.mul_assoc, Nat.mul_comm 2]⟩ ⟨by omega⟩
    ⟨by
     have := hA.out
     rw [h2] at this
     rw [Nat.mul_comm 2 Q, Nat.mul_assoc, Nat.mul_comm 2]
     exact this⟩
   refine Ev.step (fun k => hstep k) ?_
   refine Ev.bind (f := fun k t => if t ≥ 0 then ((steelyardref01_Sub.f k (N r) (N (b * 2 ^ j))).bind fun t414 => (steelyardref02_Down.f k (N (b * 2 ^ j)) ((1 : Nat) : Int)).bind fun t419 => steelyardref03_Rem.l0 k t414 (out.set (j / 32) x) t419 ((j : Int) - 1)) else (steelyardref02_Down.f k (N (b * 2 ^ j)) ((1 : Nat) : Int)).bind fun t419 => steelyardref03_Rem.l0 k (N r) out t419 ((j : Int) - 1)) s1 ?_
   have hcm : ¬ cmpN r (b * 2 ^ j) ≥ 0 := by
    unfold cmpN
    rw [if_pos (by omega)]
    omega
   refine Ev.congr (fun k => if_neg hcm) ?_
   exact Ev.bind (f := fun k t419 => steelyardref03_Rem.l0 k (N r) out t419 ((j : Int) - 1)) s2 s4
theorem rem3_tells {a b : List Int} (ha : Limbs a) (hb : Limbs b) (hsa : a.length < 268435456) (hsb : b.length < 268435456) :
  Ev (fun k => steelyardref03_Rem.f k a b) (if V b = 0 then ([], [], false) else (N (V a / V b), N (V a % V b), true)) := by
 have s1 := bits1_tells hb (by omega)
 have s2 := trim1_tells ha (by omega)
 have s3 := bits1_tells ha (by omega)
 by_cases hz : V b = 0
 ·rw [if_pos hz]
  rw [hz] at s1
  exact Ev.bind s1 (Ev.congr (fun k => by rw [if_pos (by rfl)]) (Ev.now _))
 ·rw [if_neg hz]
  have hna : nb (V a) ≤ 32 * a.length := nb_le.2 (by rw [← pow32]; exact V_lt ha)
  have hnb : nb (V b) ≤ 32 * b.length := nb_le.2 (by rw [← pow32]; exact V_lt hb)
  have hnz : nb (V b) ≠ 0 := fun h => by
   have := lt_nb (V b)
   rw [h] at this
   omega
  obtain ⟨m, hm⟩ : ∃ m : Nat, m = nb (V a) - nb (V b) := ⟨_, rfl⟩
  have hmx : Hd (mx 0 (wrap64 (((nb (V a) : Nat) : Int) - ((nb (V b) : Nat) : Int))) = (m : Int)) := ⟨by
   rw [w64 (by omega) (by omega)]
   unfold mx
   split <;> omega⟩
  have hw : Hd (wrap64 (wrap64 (Int.tdiv (m : Int) 32) + 1) = ((m / 32 + 1 : Nat) : Int)) := ⟨by
   rw [tdiv32, w64 (x := ((m / 32 : Nat) : Int)) (by omega) (by omega), w64 (by omega) (by omega)]
   rfl⟩
  have s4 := up2_tells hb (by omega) (n := m) (by omega)
  have hfit : V a < V b * 2 ^ (m + 1) := by
   have h1 := lt_nb (V a)
   have h2 : ¬ V b < 2 ^ (nb (V b) - 1) := fun h => by
    have := nb_le.2 h
    omega
   refine Nat.lt_of_lt_of_le h1 (Nat.le_trans ?_ (Nat.mul_le_mul_right _ (Nat.le_of_not_lt h2)))
   rw [← Nat.pow_add]
   exact Nat.pow_le_pow_right (by omega) (by omega)
  have hlm : len (V b * 2 ^ m) ≤ b.length + (m / 32 + 1) := len_le.2 (by
   rw [Nat.pow_add]
   refine Nat.mul_lt_mul'' (V_lt hb) ?_
   rw [pow32]
   exact Nat.pow_lt_pow_right (by omega) (by omega))
  have hla := len_V ha
  have hhalf : V b * 2 ^ (m + 1) / 2 = V b * 2 ^ m := by rw [Nat.pow_succ, ← Nat.mul_assoc, Nat.mul_div_cancel _ (by omega)]
  have s5 := rem3_loop (V a) (V b) m (by omega) (by omega) (by omega) (by omega) (m + 1) (List.replicate (m / 32 + 1) 0) 0 (V a) (Nat.le_refl _) (by rw [List.length_replicate]) (Limbs.rep _)
   ⟨by rw [V_rep, Nat.zero_mul]⟩ ⟨hfit⟩ ⟨by rw [Nat.zero_mul, Nat.zero_add]⟩
  rw [hhalf, show ((m + 1 : Nat) : Int) - 1 = (m : Int) from by omega] at s5
  have e1 : ∀ k, (if ((nb (V b) : Nat) : Int) = 0 then (some (([] : List Int), ([] : List Int), false)) else ((steelyardref01_Trim.f k a).bind fun t399 => ((steelyardref01_Bits.f k a).bind fun t402 => ((steelyardref01_Bits.f k b).bind fun t403 => (if 0 ≤ (wrap64 ((wrap64 (Int.tdiv (mx 0 (wrap64 (t402 - t403))) 32)) + 1)) then (if (wrap64 ((wrap64 (Int.tdiv (mx 0 (wrap64 (t402 - t403))) 32)) + 1) : Int).toNat ≤ 70368744177664 then ((steelyardref02_Up.f k b (mx 0 (wrap64 (t402 - t403)))).bind fun t407 => (steelyardref03_Rem.l0 k t399 (List.replicate (wrap64 ((wrap64 (Int.tdiv (mx 0 (wrap64 (t402 - t403))) 32)) + 1) : Int).toNat 0) t407 (mx 0 (wrap64 (t402 - t403))))) else (none)) else (none))))))
    = ((steelyardref01_Trim.f k a).bind fun t399 => ((steelyardref01_Bits.f k a).bind fun t402 => ((steelyardref01_Bits.f k b).bind fun t403 => (if 0 ≤ (wrap64 ((wrap64 (Int.tdiv (mx 0 (wrap64 (t402 - t403))) 32)) + 1)) then (if (wrap64 ((wrap64 (Int.tdiv (mx 0 (wrap64 (t402 - t403))) 32)) + 1) : Int).toNat ≤ 70368744177664 then ((steelyardref02_Up.f k b (mx 0 (wrap64 (t402 - t403)))).bind fun t407 => (steelyardref03_Rem.l0 k t399 (List.replicate (wrap64 ((wrap64 (Int.tdiv (mx 0 (wrap64 (t402 - t403))) 32)) + 1) : Int).toNat 0) t407 (mx 0 (wrap64 (t402 - t403))))) else (none)) else (none))))) := fun k => if_neg (by omega)
  refine Ev.bind s1 (Ev.congr (fun k => e1 k) ?_)
  refine Ev.bind (f := fun k t399 => ((steelyardref01_Bits.f k a).bind fun t402 => ((steelyardref01_Bits.f k b).bind fun t403 => (if 0 ≤ (wrap64 ((wrap64 (Int.tdiv (mx 0 (wrap64 (t402 - t403))) 32)) + 1)) then (if (wrap64 ((wrap64 (Int.tdiv (mx 0 (wrap64 (t402 - t403))) 32)) + 1) : Int).toNat ≤ 70368744177664 then ((steelyardref02_Up.f k b (mx 0 (wrap64 (t402 - t403)))).bind fun t407 => (steelyardref03_Rem.l0 k t399 (List.replicate (wrap64 ((wrap64 (Int.tdiv (mx 0 (wrap64 (t402 - t403))) 32)) + 1) : Int).toNat 0) t407 (mx 0 (wrap64 (t402 - t403))))) else (none)) else (none))))) s2 ?_
  refine Ev.bind (f := fun k t402 => ((steelyardref01_Bits.f k b).bind fun t403 => (if 0 ≤ (wrap64 ((wrap64 (Int.tdiv (mx 0 (wrap64 (t402 - t403))) 32)) + 1)) then (if (wrap64 ((wrap64 (Int.tdiv (mx 0 (wrap64 (t402 - t403))) 32)) + 1) : Int).toNat ≤ 70368744177664 then ((steelyardref02_Up.f k b (mx 0 (wrap64 (t402 - t403)))).bind fun t407 => (steelyardref03_Rem.l0 k (N (V a)) (List.replicate (wrap64 ((wrap64 (Int.tdiv (mx 0 (wrap64 (t402 - t403))) 32)) + 1) : Int).toNat 0) t407 (mx 0 (wrap64 (t402 - t403))))) else (none)) else (none)))) s3 ?_
  refine Ev.bind (f := fun k t403 => (if 0 ≤ (wrap64 ((wrap64 (Int.tdiv (mx 0 (wrap64 (((nb (V a) : Nat) : Int) - t403))) 32)) + 1)) then (if (wrap64 ((wrap64 (Int.tdiv (mx 0 (wrap64 (((nb (V a) : Nat) : Int) - t403))) 32)) + 1) : Int).toNat ≤ 70368744177664 then ((steelyardref02_Up.f k b (mx 0 (wrap64 (((nb (V a) : Nat) : Int) - t403)))).bind fun t407 => (steelyardref03_Rem.l0 k (N (V a)) (List.replicate (wrap64 ((wrap64 (Int.tdiv (mx 0 (wrap64 (((nb (V a) : Nat) : Int) - t403))) 32)) + 1) : Int).toNat 0) t407 (mx 0 (wrap64 (((nb (V a) : Nat) : Int) - t403))))) else (none)) else (none))) s1 ?_
  refine Ev.congr (f := fun k => (steelyardref02_Up.f k b (m : Int)).bind fun t407 => steelyardref03_Rem.l0 k (N (V a)) (List.replicate (m / 32 + 1) 0) t407 (m : Int)) (fun k => ?_) ?_
  ·rw [hmx.out, hw.out, if_pos (by omega), Int.toNat_natCast, if_pos (by omega)]
  ·exact Ev.bind (f := fun k t407 => steelyardref03_Rem.l0 k (N (V a)) (List.replicate (m / 32 + 1) 0) t407 (m : Int)) s4 s5
theorem gcd3_loop (x y : Nat) (hx : len x < 268435456) (hy : len y < 268435456) : Ev (fun k => steelyardref03_Gcd.l0 k (N x) (N y)) (N (Nat.gcd x y)) := by
 induction y using Nat.strongRecOn generalizing x with
 | ind y ih =>
  by_cases hz : y = 0
  ·subst hz
   rw [Nat.gcd_zero_right]
   refine Ev.step (f := fun _ => some (N x)) (fun k => ?_) (Ev.now _)
   simp only [steelyardref03_Gcd.l0]
   rw [N_zero, if_neg (by simp)]
  ·have hlt : x % y < y := Nat.mod_lt x (by omega)
   have hlm := len_mono (Nat.le_of_lt hlt)
   have s1 := rem3_tells (N_limbs x) (N_limbs y) (by rw [N_length]; omega) (by rw [N_length]; omega)
   rw [V_N, V_N, if_neg hz] at s1
   have s2 := ih (x % y) hlt y hy (by omega)
   rw [Nat.gcd_comm y, ← Nat.gcd_rec, Nat.gcd_comm] at s2
   refine Ev.step (f := fun k => (steelyardref03_Rem.f k (N x) (N y)).bind fun bt => steelyardref03_Gcd.l0 k (N y) bt.2.1) (fun k => ?_) (Ev.bind (f := fun k (bt : List Int × List Int × Bool) => steelyardref03_Gcd.l0 k (N y) bt.2.1) s1 s2)
   simp only [steelyardref03_Gcd.l0]
   have : len y ≠ 0 := fun h => hz (len_eq_zero.1 h)
   rw [N_length, if_pos (by omega)]
theorem gcd3_tells {a b : List Int} (ha : Limbs a) (hb : Limbs b) (hsa : a.length < 268435456) (hsb : b.length < 268435456) : Ev (fun k => steelyardref03_Gcd.f k a b) (N (Nat.gcd (V a) (V b))) := by
 have := len_V ha
 have := len_V hb
 exact Ev.bind (trim1_tells ha (by omega)) (Ev.bind (trim1_tells hb (by omega)) (gcd3_loop _ _ (by omega) (by omega)))
theorem nat_bits_tells (e : Nat) (h : len e < 1073741824) : ∃ r : Nat, Ev (fun k => nat_Bits.f k (N e)) (r : Int) ∧ e < 2 ^ r ∧ r ≤ 32 * len e := by
 have s1 := used_tells (N_limbs e) (by rw [N_length]; omega)
 rw [V_N] at s1
 by_cases hz : e = 0
 ·subst hz
  refine ⟨0, Ev.bind s1 (Ev.congr (fun k => by rw [len_zero, if_pos (by rfl)]; rfl) (Ev.now _)), by simp, by omega⟩
 ·obtain ⟨n, hn, ht⟩ := rd_top hz
  have rt := rd_nonneg (N_limbs e) (n : Int)
  obtain ⟨tp, htp⟩ := Int.eq_ofNat_of_zero_le rt.1
  obtain ⟨s, hs, hs1, hs2⟩ := len32_tells tp (by omega)
  have hN : (N e).length = n + 1 := hn
  refine ⟨32 * n + s, Ev.bind s1 (Ev.congr (fun k => ?_) (Ev.now _)), ?_, by omega⟩
  ·have hw0 : Hd (wrap64 (((n + 1 : Nat) : Int) - 1) = (n : Int)) := ⟨by rw [w64 (by omega) (by omega)]; omega⟩
   rw [hn, hw0.out, if_neg (by omega), if_pos (by omega), hN, if_pos (by omega), htp]
   show (bits_Len32.f (tp : Int)).bind _ = _
   rw [hs, Option.bind_some, w64 (x := 32 * (n : Int)) (by omega) (by omega), w64 (by omega) (by omega)]
   rfl
  ·have e1 := V_take_drop (N e) n (by omega)
   have e3 := V_lt ((N_limbs e).take n)
   rw [drop_cons _ n (by omega), show (N e).drop (n + 1) = [] from List.drop_eq_nil_of_le (by omega), V_cons, V_nil, htp, Int.toNat_natCast, V_N, Nat.mul_zero, Nat.add_zero] at e1
   rw [List.length_take, Nat.min_eq_left (by omega)] at e3
   rw [Nat.pow_add, ← pow32]
   have e4 : 4294967296 ^ n * (tp + 1) ≤ 4294967296 ^ n * 2 ^ s := Nat.mul_le_mul_left _ hs2
   rw [Nat.mul_add, Nat.mul_one] at e4
   generalize 4294967296 ^ n * 2 ^ s = z1 at *
   generalize 4294967296 ^ n * tp = z2 at *
   generalize 4294967296 ^ n = z3 at *
   clear hs2 s1 ht
   omega
theorem pow_big (A x e : Nat) (h : x ≤ e) (hx : ¬ len (A ^ x) ≤ 256) : ¬ len (A ^ e) ≤ 256 := by
 intro h2
 by_cases hA : A = 0
 ·subst hA
  have : (0 : Nat) ^ x ≤ 1 := by
   cases x with
   | zero => simp
   | succ x => rw [Nat.zero_pow (by omega)]; omega
  have h3 := len_mono this
  have h4 : len 1 ≤ 1 := len_le.2 (by omega)
  omega
 ·have := len_mono (Nat.pow_le_pow_right (n := A) (by omega) h)
  omega
theorem pow_loop {a : List Int} (ha : Limbs a) (hsa : a.length < 68719476736) (e : Nat) (he : len e < 1073741824) : ∀ j : Nat, j < 1099511627776 → len (V a ^ (e / 2 ^ j)) ≤ 256 →
  Ev (fun k => mul_Pow.l0 k a (N (V a ^ (e / 2 ^ j))) (N e) ((j : Int) - 1)) (if len (V a ^ e) ≤ 256 then (N (V a ^ e), true) else ([], false)) := by
 intro j
 induction j with
 | zero =>
  intro hj hl
  rw [Nat.pow_zero, Nat.div_one] at hl
  rw [Nat.pow_zero, Nat.div_one, if_pos hl]
  refine Ev.step (f := fun k => some _) (fun k => ?_) (Ev.now _)
  simp only [mul_Pow.l0]
  rw [if_neg (by omega)]
 | succ j ih =>
  intro hj hl
  have hw0 : Hd (wrap64 ((j : Int) - 1) = (j : Int) - 1) := ⟨by rw [w64 (by omega) (by omega)]⟩
  have hj1 : ((j + 1 : Nat) : Int) - 1 = (j : Int) := by omega
  have hm : e / 2 ^ (j + 1) = e / 2 ^ j / 2 := by rw [Nat.pow_succ, Nat.div_div_eq_div_mul]
  have hme : e / 2 ^ j ≤ e := Nat.div_le_self _ _
  have hbt := bit_tells (N_limbs e) j (by omega)
  rw [V_N] at hbt
  rw [hm] at hl ⊢
  generalize e / 2 ^ j = m at *
  have hsq : V a ^ (m / 2) * V a ^ (m / 2) = V a ^ (2 * (m / 2)) := by rw [← Nat.pow_add]; congr 1; omega
  have s1 := mul_tells (N_limbs (V a ^ (m / 2))) (N_limbs (V a ^ (m / 2))) (by rw [N_length]; omega) (by rw [N_length]; omega)
  rw [V_N, hsq] at s1
  rw [hj1]
  refine Ev.step (f := fun k => (mul_Of.f k (N (V a ^ (m / 2))) (N (V a ^ (m / 2)))).bind fun t282 => (if (t282.length : Int) > 256 then (some (([] : List Int), false)) else ((nat_Bit.f (N e) (j : Int)).bind fun t285 => (if t285 = true then ((mul_Of.f k t282 a).bind fun t286 => (if (t286.length : Int) > 256 then (some (([] : List Int), false)) else (mul_Pow.l0 k a t286 (N e) ((j : Int) - 1)))) else (mul_Pow.l0 k a t282 (N e) ((j : Int) - 1)))))) (fun k => ?_) ?_
  ·clear s1 hsq ih hbt
   simp only [mul_Pow.l0]
   rw [if_pos (by omega), hw0.out]
  refine Ev.bind (f := fun k t282 => (if (t282.length : Int) > 256 then (some (([] : List Int), false)) else ((nat_Bit.f (N e) (j : Int)).bind fun t285 => (if t285 = true then ((mul_Of.f k t282 a).bind fun t286 => (if (t286.length : Int) > 256 then (some (([] : List Int), false)) else (mul_Pow.l0 k a t286 (N e) ((j : Int) - 1)))) else (mul_Pow.l0 k a t282 (N e) ((j : Int) - 1)))))) s1 ?_
  by_cases h1 : len (V a ^ (2 * (m / 2))) ≤ 256
  ·refine Ev.congr (f := fun k => (if decide (m % 2 = 1) = true then ((mul_Of.f k (N (V a ^ (2 * (m / 2)))) a).bind fun t286 => (if (t286.length : Int) > 256 then (some (([] : List Int), false)) else (mul_Pow.l0 k a t286 (N e) ((j : Int) - 1)))) else (mul_Pow.l0 k a (N (V a ^ (2 * (m / 2)))) (N e) ((j : Int) - 1)))) (fun k => by rw [N_length, if_neg (by omega), hbt, Option.bind_some]) ?_
   by_cases h2 : m % 2 = 1
   ·have hm2 : V a ^ (2 * (m / 2)) * V a = V a ^ m := by rw [← Nat.pow_succ]; congr 1; omega
    have s2 := mul_tells (N_limbs (V a ^ (2 * (m / 2)))) ha (by rw [N_length]; omega) (by omega)
    rw [V_N, hm2] at s2
    refine Ev.congr (fun k => if_pos (by simpa using h2)) (Ev.bind (f := fun k t286 => (if (t286.length : Int) > 256 then (some (([] : List Int), false)) else (mul_Pow.l0 k a t286 (N e) ((j : Int) - 1)))) s2 ?_)
    by_cases h3 : len (V a ^ m) ≤ 256
    ·exact Ev.congr (fun k => by rw [N_length, if_neg (by omega)]) (ih (by omega) h3)
    ·rw [if_neg (pow_big (V a) m e hme h3)]
     exact Ev.congr (fun k => by rw [N_length, if_pos (by omega)]) (Ev.now _)
   ·have hm2 : 2 * (m / 2) = m := by omega
    rw [hm2] at h1 ⊢
    exact Ev.congr (fun k => if_neg (by simpa using h2)) (ih (by omega) h1)
  ·rw [if_neg (pow_big (V a) _ e (by omega) h1)]
   exact Ev.congr (fun k => by rw [N_length, if_pos (by omega)]) (Ev.now _)
theorem pow_tells {a : List Int} (ha : Limbs a) (hsa : a.length < 68719476736) (e : Nat) (he : e < 9223372036854775808) : Ev (fun k => mul_Pow.f k a (e : Int)) (if len (V a ^ e) ≤ 256 then (N (V a ^ e), true) else ([], false)) := by
 have hle : len e ≤ 2 := len_le.2 (by omega)
 have hl1 : len 1 ≤ 1 := len_le.2 (by omega)
 obtain ⟨r, s3, h1, h2⟩ := nat_bits_tells e (by omega)
 have s1 := nat_of_tells (v := 1) (by omega) (by omega)
 have s2 := nat_of_tells (v := (e : Int)) (by omega) (by omega)
 rw [Int.toNat_natCast] at s2
 have hz : e / 2 ^ r = 0 := Nat.div_eq_of_lt h1
 have s4 := pow_loop ha hsa e (by omega) r (by omega) (by rw [hz, Nat.pow_zero]; omega)
 rw [hz, Nat.pow_zero] at s4
 refine Ev.congr (f := fun k => (nat_Of.f k 1).bind fun t275 => ((nat_Of.f k (e : Int)).bind fun t278 => ((nat_Bits.f k t278).bind fun t281 => (mul_Pow.l0 k a t275 t278 (wrap64 (t281 - 1)))))) (fun k => ?_) ?_
 ·clear s4 h1 hz
  unfold mul_Pow.f
  rw [if_neg (by omega), u64 (by omega) (by omega)]
 ·refine Ev.bind (f := fun k t275 => ((nat_Of.f k (e : Int)).bind fun t278 => ((nat_Bits.f k t278).bind fun t281 => (mul_Pow.l0 k a t275 t278 (wrap64 (t281 - 1)))))) s1 ?_
  refine Ev.bind (f := fun k t278 => ((nat_Bits.f k t278).bind fun t281 => (mul_Pow.l0 k a (N 1) t278 (wrap64 (t281 - 1))))) s2 ?_
  refine Ev.bind (f := fun k t281 => (mul_Pow.l0 k a (N 1) (N e) (wrap64 (t281 - 1)))) s3 ?_
  clear h1 hz
  rw [w64 (x := (r : Int) - 1) (by omega) (by omega)]
  exact s4

theorem drop_eq_iff (a b : List Int) (i : Nat) (ha : i < a.length) (hb : i < b.length) : a.drop i = b.drop i ↔ rd a (i : Int) = rd b (i : Int) ∧ a.drop (i + 1) = b.drop (i + 1) := by
 rw [drop_cons a i ha, drop_cons b i hb, List.cons.injEq]
theorem same_loop (a b : List Int) (hl : a.length = b.length) (hs : a.length < 1099511627776) (d : Nat) : ∀ i : Nat, i + d = a.length → Ev (fun k => steelyardkeep_Nat.l0 k a b (i : Int)) (decide (a.drop i = b.drop i)) := by
 induction d with
 | zero =>
  intro i hi
  rw [List.drop_eq_nil_of_le (by omega), List.drop_eq_nil_of_le (by omega), decide_eq_true rfl]
  exact Ev.step (f := fun _ => some true) (fun k => by simp only [steelyardkeep_Nat.l0]; rw [if_neg (by omega)]) (Ev.now _)
 | succ d ih =>
  intro i hi
  have s := ih (i + 1) (by omega)
  have hw : wrap64 ((i : Int) + 1) = ((i + 1 : Nat) : Int) := by rw [w64 (by omega) (by omega)]; rfl
  have e := drop_eq_iff a b i (by omega) (by omega)
  by_cases h : rd a (i : Int) = rd b (i : Int)
  ·rw [decide_eq_decide.2 (e.trans (and_iff_right h))]
   refine Ev.step (fun k => ?_) s
   simp only [steelyardkeep_Nat.l0]
   rw [if_pos (by omega), if_pos (by omega), if_pos (by omega), if_pos h, hw]
  ·rw [decide_eq_false (fun h2 => h (e.1 h2).1)]
   refine Ev.step (f := fun _ => some false) (fun k => ?_) (Ev.now _)
   simp only [steelyardkeep_Nat.l0]
   rw [if_pos (by omega), if_pos (by omega), if_pos (by omega), if_neg h]
theorem same_tells (a b : List Int) (hs : a.length < 1099511627776) : Ev (fun k => steelyardkeep_Nat.f k a b) (decide (a = b)) := by
 by_cases h : a.length = b.length
 ·have := same_loop a b h hs a.length 0 (by omega)
  exact Ev.congr (fun k => by unfold steelyardkeep_Nat.f; rw [if_pos (by omega)]; rfl) this
 ·rw [decide_eq_false (fun h2 => h (by rw [h2]))]
  exact Ev.congr (fun k => by unfold steelyardkeep_Nat.f; rw [if_neg (by omega)]) (Ev.now _)
theorem trimmed_iff {l : List Int} (hl : Limbs l) (n : Nat) (hn : l.length = n + 1) : (rd l (n : Int) != 0) = decide (N (V l) = l) := by
 have hne : l ≠ [] := fun h => by rw [h] at hn; simp at hn
 have e : rd l (n : Int) = l.getLast hne := by
  rw [List.getLast_eq_getElem, rd_cast, List.getD_eq_getElem?_getD, List.getElem?_eq_getElem (by omega), Option.getD_some]
  congr 1
  omega
 rw [e]
 by_cases h : l.getLast hne = 0
 ·rw [h, decide_eq_false]
  ·rfl
  ·intro h2
   have h3 : N (V l) ≠ [] := by rw [h2]; exact hne
   have := N_last (V l) h3
   exact this (by simp only [h2]; exact h)
 ·rw [decide_eq_true (N_V hl (fun _ => h))]
  simp [h]
theorem trimmed7_tells {l : List Int} (hl : Limbs l) (hs : l.length < 9223372036854775808) : steelyardref07_trimmed.f l = some (decide (N (V l) = l)) := by
 unfold steelyardref07_trimmed.f
 by_cases h : l.length = 0
 ·rw [if_pos (by omega), List.length_eq_zero_iff.1 h, V_nil, N_zero, decide_eq_true rfl]
 ·obtain ⟨n, hn⟩ := Nat.exists_eq_succ_of_ne_zero h
  have hw : Hd (wrap64 ((l.length : Int) - 1) = (n : Int)) := ⟨by rw [w64 (by omega) (by omega)]; omega⟩
  rw [if_neg (by omega), hw.out, if_pos (by omega), if_pos (by omega), trimmed_iff hl n hn]
theorem trimmed_tells {l : List Int} (hl : Limbs l) (hs : l.length < 9223372036854775808) : rat_trimmed.f l = some (decide (N (V l) = l)) := by
 unfold rat_trimmed.f
 by_cases h : l.length = 0
 ·rw [if_pos (by omega), List.length_eq_zero_iff.1 h, V_nil, N_zero, decide_eq_true rfl]
 ·obtain ⟨n, hn⟩ := Nat.exists_eq_succ_of_ne_zero h
  have hw : Hd (wrap64 ((l.length : Int) - 1) = (n : Int)) := ⟨by rw [w64 (by omega) (by omega)]; omega⟩
  rw [if_neg (by omega), hw.out, if_pos (by omega), if_pos (by omega), trimmed_iff hl n hn]
theorem within_tells (a b : Int) (h0 : 0 ≤ b) (h1 : b ≤ 9223372036854775807) : power_within.f a b = some (decide (-b ≤ a ∧ a ≤ b)) := by
 unfold power_within.f
 rw [w64 (by omega) (by omega)]
 by_cases h : -b ≤ a
 ·rw [if_pos (by omega)]; congr 1; simp [h]
 ·rw [if_neg (by omega)]; congr 1; simp [h]
end Go.Proofs.YtjkcmnedolfkjaaGreat.Num
end
