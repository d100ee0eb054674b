/- Part 7 of the proof. -/
import Derived.Below
import Derived.Deep.Draws
import Derived.Deep.AppendLies
import Derived.Maps.AppendAt
import Derived.OwnWalk
import Derived.Laws.BytesArg
import Derived.Laws.MakeOwn
import Derived.Laws.OwnMore
import Derived.Deep.OwnRows
import Derived.Tactics
import Derived.Lib.ConvBytes
import Derived.Laws.Slices
import Derived.WalkKit
import Derived.KernelRfl
import Derived.RowKit3
import Derived.Deep.LoopGhost
import Derived.Deep.QuietTactic
import Derived.BigQuiet
import Derived.WideLaws
import Derived.Deep.DeepCutAuto
import Derived.Deep.CutBlock
import Derived.Deep.RegionHeld3
import Derived.Laws.Rows
import Derived.Lib.AppendStr
import Derived.ArgAppend
import Derived.Laws.IdiomCopy
import Derived.RowKit
import Derived.OrdersHeld
import Derived.Laws.BitsLemmas
import Derived.Test.YticngjjdjmadgaaProg
import Derived.Laws.StructEq
import Derived.Laws.Bits64b
import Derived.Laws.BitsAllLaws
import Derived.Laws.Tables
import Derived.Orders
import Derived.Laws.Cells
import Derived.Great.BuildSlice
import Derived.Laws.CopyRow
import Derived.Test.YticngjjdjmadgaaM6
set_option linter.unusedVariables false
set_option linter.unusedSimpArgs false
section
set_option linter.unusedVariables false
set_option linter.unusedSimpArgs false
namespace Go.Proofs.Yticngjjdjmadgaa.Num
open Go.RowKit Go.Proofs.YticngjjdjmadgaaW.PrintWords Go.Proofs.YticngjjdjmadgaaW.PrintMore Go.Proofs.Yticngjjdjmadgaa.PL Go.Proofs.Yticngjjdjmadgaa.PU

def Z (neg : Bool) (l : List Int) : Int := if neg = true then -(V l : Int) else (V l : Int)
def I (z : Int) : Bool × List Int := (decide (z < 0), N z.natAbs)
theorem Z_abs (neg : Bool) (l : List Int) : (Z neg l).natAbs = V l := by unfold Z; split <;> omega
theorem I_1 (z : Int) : (I z).1 = decide (z < 0) := rfl
theorem Z_I (z : Int) : Z (I z).1 (I z).2 = z := by
  unfold Z I
  simp only [V_N, decide_eq_true_eq]
  split <;> omega
theorem I_limbs (z : Int) : Limbs (I z).2 := N_limbs _
theorem V_I (z : Int) : V (I z).2 = z.natAbs := V_N _
theorem I_len (z : Int) : (I z).2.length = len z.natAbs := rfl
theorem made_eq (neg : Bool) (l : List Int) : (if neg = true then (if ((N (V l)).length : Int) > 0 then some (true, N (V l)) else some (false, N (V l))) else some (false, N (V l))) = some (I (Z neg l)) := by
  unfold I
  rw [Z_abs]
  have h0 : len (V l) = 0 ↔ V l = 0 := len_eq_zero
  cases neg with
  | false =>
    rw [if_neg (by simp)]
    have e : decide (Z false l < 0) = false := by
      unfold Z
      rw [if_neg (by simp)]
      exact decide_eq_false (by omega)
    rw [e]
  | true =>
    rw [if_pos rfl]
    by_cases h : V l = 0
    · rw [N_length, if_neg (by omega)]
      have e : decide (Z true l < 0) = false := by
        unfold Z
        rw [if_pos rfl]
        exact decide_eq_false (by omega)
      rw [e]
    · rw [N_length, if_pos (by omega)]
      have e : decide (Z true l < 0) = true := by
        unfold Z
        rw [if_pos rfl]
        exact decide_eq_true (by omega)
      rw [e]
theorem splice_all (l : List Int) : splice (List.replicate l.length (0 : Int)) 0 l = l := by
  unfold splice
  simp
theorem made_tells (neg : Bool) {l : List Int} (hl : Limbs l) (hs : l.length < 68719476736) : Ev (fun k => whole_made.f k neg l) (I (Z neg l)) := by
  have s1 := trim_tells hl (by omega)
  refine Ev.congr (f := fun k => (nat_Trim.f k l).bind fun t112 => (if neg = true then (if (t112.length : Int) > 0 then (some (true, t112)) else (some (false, t112))) else (some (false, t112)))) (fun k => ?_) (Ev.bind s1 (Ev.congr (fun _ => made_eq neg l) (Ev.now _)))
  unfold whole_made.f
  rw [if_pos (by omega), Int.toNat_natCast, if_pos (by omega), splice_all]
theorem eta2 {α β : Type} (f : Nat → Option (α × β)) {r : α × β} (h : Ev f r) : Ev (fun k => (f k).bind fun b => some (b.1, b.2)) r := Ev.bind h (Ev.now _)
theorem wtrim_tells (neg : Bool) {l : List Int} (hl : Limbs l) (hs : l.length < 68719476736) : Ev (fun k => whole_Trim.f k neg l) (I (Z neg l)) := eta2 _ (made_tells neg hl hs)
theorem wmul_tells (n1 : Bool) {l1 : List Int} (h1 : Limbs l1) (n2 : Bool) {l2 : List Int} (h2 : Limbs l2) (hs1 : l1.length < 1073741824) (hs2 : l2.length < 1073741824) : Ev (fun k => whole_Mul.f k n1 l1 n2 l2) (I (Z n1 l1 * Z n2 l2)) := by
  have hb : len (V l1 * V l2) ≤ l1.length + l2.length := len_le.2 (by rw [Nat.pow_add]; exact Nat.mul_lt_mul'' (V_lt h1) (V_lt h2))
  have s := eta2 _ (made_tells (n1 != n2) (N_limbs (V l1 * V l2)) (by rw [N_length]; omega))
  have e : Z (n1 != n2) (N (V l1 * V l2)) = Z n1 l1 * Z n2 l2 := by
    unfold Z
    rw [V_N]
    cases n1 <;> cases n2 <;> simp [Int.mul_neg, Int.neg_mul]
  rw [e] at s
  exact Ev.bind (mul_tells h1 h2 (by omega) (by omega)) s
end Go.Proofs.Yticngjjdjmadgaa.Num
end
section
set_option linter.unusedVariables false
set_option linter.unusedSimpArgs false
namespace Go.Proofs.Yticngjjdjmadgaa.Num
open Go.RowKit Go.Proofs.YticngjjdjmadgaaW.PrintWords Go.Proofs.YticngjjdjmadgaaW.PrintMore Go.Proofs.Yticngjjdjmadgaa.PL Go.Proofs.Yticngjjdjmadgaa.PU

abbrev R3 : Type := Bool × List Int × List Int
abbrev R4 : Type := Bool × List Int × List Int × Int
def ratOf (q : Rat) : R3 := (decide (q.num < 0), N q.num.natAbs, N q.den)
def fits (q : Rat) : Bool := decide (len q.num.natAbs ≤ 64) && decide (len q.den ≤ 64)
def bad (e : Int) : R4 := (false, [], [], e)
def lim (q : Rat) : R4 := if fits q = true then ((ratOf q).1, (ratOf q).2.1, (ratOf q).2.2, 0) else bad 2
def qOf (a : R3) : Rat := mkRat (Z a.1 a.2.1) (V a.2.2)
def goodB (a : R3) : Bool := decide (N (V a.2.1) = a.2.1) && decide (N (V a.2.2) = a.2.2) && decide (a.2.2.length ≠ 0) && decide (a.2.2.length ≤ 64) && decide (a.2.1.length ≤ 64) && !(a.1 && decide (a.2.1.length = 0)) && decide (Nat.gcd (V a.2.1) (V a.2.2) = 1)
theorem mk_parts (z : Int) (b : Nat) (hb : b ≠ 0) : (mkRat z b).num.natAbs = z.natAbs / Nat.gcd z.natAbs b ∧ (mkRat z b).den = b / Nat.gcd z.natAbs b ∧ decide ((mkRat z b).num < 0) = decide (z < 0) := by
  rw [Rat.num_mkRat, Rat.den_mkRat, if_neg hb, if_neg hb, Nat.gcd_comm b]
  have hg : 0 < Nat.gcd z.natAbs b := Nat.gcd_pos_of_pos_right _ (by omega)
  have hd : ((Nat.gcd z.natAbs b : Nat) : Int) ∣ z := Int.ofNat_dvd_left.2 (Nat.gcd_dvd_left _ _)
  generalize Nat.gcd z.natAbs b = g at *
  obtain ⟨c, hc⟩ := hd
  refine ⟨?_, rfl, ?_⟩
  · rw [hc, Int.mul_ediv_cancel_left _ (by omega), Int.natAbs_mul, Int.natAbs_natCast, Nat.mul_div_cancel_left _ hg]
  · rw [hc, Int.mul_ediv_cancel_left _ (by omega), decide_eq_decide]
    constructor
    · intro h
      exact Int.mul_neg_of_pos_of_neg (by omega) h
    · intro h
      by_cases h2 : c < 0
      · exact h2
      · have := Int.mul_nonneg (show 0 ≤ (g : Int) from by omega) (show 0 ≤ c from by omega)
        omega
theorem ratof_tells (neg : Bool) {l b : List Int} (hl : Limbs l) (hb : Limbs b) (hsl : l.length < 134217728) (hsb : b.length < 134217728) :
    Ev (fun k => rat_Of.f k neg l b) (if V b = 0 then bad 3 else lim (mkRat (Z neg l) (V b))) := by
  have bl : len (Z neg l).natAbs ≤ l.length := by rw [Z_abs]; exact len_V hl
  have bb := len_V hb
  refine Ev.bind (wtrim_tells neg hl (by omega)) (Ev.bind (trim_tells hb (by omega)) ?_)
  generalize Z neg l = z at *
  generalize V b = B at *
  by_cases hz : B = 0
  · subst hz
    rw [if_pos rfl]
    exact Ev.congr (fun k => by rw [N_zero, if_pos (by rfl)]; rfl) (Ev.now _)
  · rw [if_neg hz]
    have hlz : len B ≠ 0 := fun h => hz (len_eq_zero.1 h)
    refine Ev.congr (fun k => by rw [N_length, if_neg (by omega)]) ?_
    have s1 := gcd_tells (I_limbs z) (N_limbs B) (by rw [I_len]; omega) (by rw [N_length]; omega)
    rw [V_I, V_N] at s1
    obtain ⟨p1, p2, p3⟩ := mk_parts z B hz
    have hg : 0 < Nat.gcd z.natAbs B := Nat.gcd_pos_of_pos_right _ (by omega)
    have hgb : len (Nat.gcd z.natAbs B) ≤ len B := len_mono (Nat.gcd_le_right _ (by omega))
    have s2 := rem_tells (I_limbs z) (N_limbs (Nat.gcd z.natAbs B)) (by rw [I_len]; omega) (by rw [N_length]; omega)
    rw [V_I, V_N, if_neg (by omega), ← p1] at s2
    have s3 := rem_tells (N_limbs B) (N_limbs (Nat.gcd z.natAbs B)) (by rw [N_length]; omega) (by rw [N_length]; omega)
    rw [V_N, V_N, if_neg (by omega), ← p2] at s3
    refine Ev.bind s1 (Ev.bind s2 (Ev.bind s3 ?_))
    unfold lim fits ratOf bad
    rw [p3]
    generalize (mkRat z B).num.natAbs = x at *
    generalize (mkRat z B).den = y at *
    by_cases h1 : len x ≤ 64
    · refine Ev.congr (fun k => by rw [N_length, if_neg (by omega)]) ?_
      by_cases h2 : len y ≤ 64
      · refine Ev.congr (fun k => by rw [N_length, if_neg (by omega)]) ?_
        rw [if_pos (by simp [h1, h2])]
        exact Ev.now _
      · refine Ev.congr (fun k => by rw [N_length, if_pos (by omega)]) ?_
        rw [if_neg (by simp [h2])]
        exact Ev.now _
    · refine Ev.congr (fun k => by rw [N_length, if_pos (by omega)]) ?_
      rw [if_neg (by simp [h1])]
      exact Ev.now _
theorem rgood_j (l b : List Int) (hl : Limbs l) (hb : Limbs b) (hsl : l.length ≤ 64) (hsb : b.length ≤ 64) : Ev (fun k => rat_Good.j0 k l b false) (decide (Nat.gcd (V l) (V b) = 1)) := by
  have s1 := gcd_tells hl hb (by omega) (by omega)
  have s2 := nat_of_tells (v := 1) (by omega) (by omega)
  have hgl : len (Nat.gcd (V l) (V b)) ≤ 64 := by
    by_cases h : V b = 0
    · rw [h, Nat.gcd_zero_right]; exact Nat.le_trans (len_V hl) hsl
    · exact Nat.le_trans (len_mono (Nat.gcd_le_right _ (by omega))) (Nat.le_trans (len_V hb) hsb)
  have h1 : len 1 ≤ 1 := len_le.2 (by omega)
  have s3 := cmp_tells (N_limbs (Nat.gcd (V l) (V b))) (N_limbs 1) (by rw [N_length]; omega) (by rw [N_length]; omega)
  rw [V_N, V_N] at s3
  have e : decide (Nat.gcd (V l) (V b) = 1) = (cmpN (Nat.gcd (V l) (V b)) 1 == 0) := by
    unfold cmpN
    by_cases h : Nat.gcd (V l) (V b) = 1
    · rw [decide_eq_true h, h]; rfl
    · rw [decide_eq_false h]
      split
      · rfl
      · split
        · rfl
        · omega
  rw [e]
  refine Ev.step (f := fun k => (quo_Gcd.f k l b).bind fun t315 => ((nat_Of.f k 1).bind fun t318 => ((nat_Cmp.f k t315 t318).bind fun t321 => (some (t321 == 0))))) (fun k => by simp [rat_Good.j0]) ?_
  exact Ev.bind s1 (Ev.bind s2 (Ev.bind s3 (Ev.now _)))
theorem rgood_no (l b : List Int) : Ev (fun k => rat_Good.j0 k l b true) false :=
  Ev.step (f := fun _ => some false) (fun k => by simp [rat_Good.j0]) (Ev.now _)
theorem rgood_tells (neg : Bool) {l b : List Int} (hl : Limbs l) (hb : Limbs b) (hsl : l.length < 9223372036854775808) (hsb : b.length < 9223372036854775808) : Ev (fun k => rat_Good.f k neg l b) (goodB (neg, l, b)) := by
  unfold goodB
  dsimp only
  refine Ev.congr (f := fun k => if decide (N (V l) = l) = true then (if decide (N (V b) = b) = true then (if (b.length : Int) = 0 then (rat_Good.j0 k l b true) else (if (b.length : Int) > 64 then (rat_Good.j0 k l b true) else (if (l.length : Int) > 64 then (rat_Good.j0 k l b true) else (if neg = true then (if (l.length : Int) = 0 then (rat_Good.j0 k l b true) else (rat_Good.j0 k l b false)) else (rat_Good.j0 k l b false))))) else (rat_Good.j0 k l b true)) else (rat_Good.j0 k l b true)) (fun k => by
    unfold rat_Good.f
    rw [trimmed_tells hl hsl, trimmed_tells hb hsb]
    rfl) ?_
  by_cases h1 : N (V l) = l
  · refine Ev.congr (fun k => if_pos (decide_eq_true h1)) ?_
    by_cases h2 : N (V b) = b
    · refine Ev.congr (fun k => if_pos (decide_eq_true h2)) ?_
      by_cases h3 : b.length = 0
      · exact Ev.congr (fun k => if_pos (by omega)) (by simpa [h3] using rgood_no l b)
      · refine Ev.congr (fun k => if_neg (by omega)) ?_
        by_cases h4 : b.length ≤ 64
        · refine Ev.congr (fun k => if_neg (by omega)) ?_
          by_cases h5 : l.length ≤ 64
          · refine Ev.congr (fun k => if_neg (by omega)) ?_
            have s := rgood_j l b hl hb h5 h4
            cases neg with
            | false =>
              refine Ev.congr (fun k => if_neg (by simp)) ?_
              rw [decide_eq_true h1, decide_eq_true h2, decide_eq_true h3, decide_eq_true h4, decide_eq_true h5]
              exact s
            | true =>
              refine Ev.congr (fun k => if_pos rfl) ?_
              by_cases h6 : l.length = 0
              · refine Ev.congr (fun k => if_pos (by omega)) ?_
                rw [decide_eq_true h6]
                simpa using rgood_no l b
              · refine Ev.congr (fun k => if_neg (by omega)) ?_
                rw [decide_eq_true h1, decide_eq_true h2, decide_eq_true h3, decide_eq_true h4, decide_eq_true h5, decide_eq_false h6]
                exact s
          · refine Ev.congr (fun k => if_pos (by omega)) ?_
            rw [decide_eq_false h5]
            simpa using rgood_no l b
        · refine Ev.congr (fun k => if_pos (by omega)) ?_
          rw [decide_eq_false h4]
          simpa using rgood_no l b
    · refine Ev.congr (fun k => if_neg (by simpa using h2)) ?_
      rw [decide_eq_false h2]
      simpa using rgood_no l b
  · refine Ev.congr (fun k => if_neg (by simpa using h1)) ?_
    rw [decide_eq_false h1]
    simpa using rgood_no l b
theorem good_iff {a : R3} : goodB a = true ↔ ∃ q : Rat, fits q = true ∧ a = ratOf q := by
  obtain ⟨neg, l, b⟩ := a
  unfold goodB
  simp only [Bool.and_eq_true, decide_eq_true_eq, Bool.not_eq_true', Bool.and_eq_false_iff, decide_eq_false_iff_not]
  constructor
  · rintro ⟨⟨⟨⟨⟨⟨h1, h2⟩, h3⟩, h4⟩, h5⟩, h6⟩, h7⟩
    have hB : V b ≠ 0 := fun h => by
      rw [h, N_zero] at h2
      exact h3 (by rw [← h2]; rfl)
    obtain ⟨p1, p2, p3⟩ := mk_parts (Z neg l) (V b) hB
    rw [Z_abs, h7, Nat.div_one] at p1 p2
    have hlen1 : len (V l) = l.length := by rw [← N_length, h1]
    have hlen2 : len (V b) = b.length := by rw [← N_length, h2]
    refine ⟨mkRat (Z neg l) (V b), ?_, ?_⟩
    · unfold fits
      rw [p1, p2, hlen1, hlen2, decide_eq_true h5, decide_eq_true h4]
      rfl
    · unfold ratOf
      rw [p1, p2, p3, h1, h2]
      have : neg = decide (Z neg l < 0) := by
        have h0 : len (V l) = 0 ↔ V l = 0 := len_eq_zero
        unfold Z
        cases neg with
        | false => rw [if_neg (by simp)]; exact (decide_eq_false (by omega)).symm
        | true =>
          rw [if_pos rfl]
          refine (decide_eq_true ?_).symm
          rcases h6 with h6 | h6
          · cases h6
          · omega
      rw [← this]
  · rintro ⟨q, hf, he⟩
    unfold ratOf at he
    injection he with e1 e2
    injection e2 with e2 e3
    subst e1 e2 e3
    unfold fits at hf
    simp only [Bool.and_eq_true, decide_eq_true_eq] at hf
    rw [V_N, V_N, N_length, N_length]
    have hd := q.den_nz
    refine ⟨⟨⟨⟨⟨⟨rfl, rfl⟩, fun h => hd (len_eq_zero.1 h)⟩, hf.2⟩, hf.1⟩, ?_⟩, q.reduced⟩
    by_cases h : q.num < 0
    · right
      intro h2
      have := len_eq_zero.1 h2
      omega
    · left
      exact decide_eq_false h
theorem Z_ratOf (q : Rat) : Z (ratOf q).1 (ratOf q).2.1 = q.num := Z_I q.num
theorem V_ratOf (q : Rat) : V (ratOf q).2.2 = q.den := V_N _
theorem qOf_ratOf (q : Rat) : qOf (ratOf q) = q := by
  unfold qOf
  rw [Z_ratOf, V_ratOf, Rat.mkRat_self]
end Go.Proofs.Yticngjjdjmadgaa.Num
end
section
set_option linter.unusedVariables false
set_option linter.unusedSimpArgs false
namespace Go.Proofs.Yticngjjdjmadgaa.Num
open Go.RowKit Go.Proofs.YticngjjdjmadgaaW.PrintWords Go.Proofs.YticngjjdjmadgaaW.PrintMore Go.Proofs.Yticngjjdjmadgaa.PL Go.Proofs.Yticngjjdjmadgaa.PU

structure LR (a : R3) : Prop where
  t : Limbs a.2.1
  b : Limbs a.2.2
  lt : a.2.1.length < 67108864
  lb : a.2.2.length < 67108864
theorem fits_len {q : Rat} (h : fits q = true) : len q.num.natAbs ≤ 64 ∧ len q.den ≤ 64 := by
  unfold fits at h
  simpa using h
theorem LR_ratOf {q : Rat} (h : fits q = true) : LR (ratOf q) := by
  obtain ⟨h1, h2⟩ := fits_len h
  exact ⟨N_limbs _, N_limbs _, by show len q.num.natAbs < _; omega, by show len q.den < _; omega⟩
theorem good_ratOf {q : Rat} (h : fits q = true) : goodB (ratOf q) = true := good_iff.2 ⟨q, h, rfl⟩
def divS (a b : R3) : R4 := if (goodB a && goodB b) = true then (if qOf b = 0 then bad 3 else lim (qOf a / qOf b)) else bad 1
theorem eta4 {f : Nat → Option R4} {r : R4} (h : Ev f r) : Ev (fun k => (f k).bind fun b => some (b.1, b.2.1, b.2.2.1, b.2.2.2)) r := Ev.bind h (Ev.now _)
theorem goods {α : Type} (f : Bool → Nat → Option α) (g1 g2 : Nat → Option Bool) {b1 b2 : Bool} {r : α} (h1 : Ev g1 b1) (h2 : Ev g2 b2) (hj : ∀ x, (x = true → f x 0 = f x 0) → True)
    (hno : Ev (f true) r ∨ (b1 = true ∧ b2 = true)) (hyes : b1 = true → b2 = true → Ev (f false) r) :
    Ev (fun k => (g1 k).bind fun t => (if t = true then ((g2 k).bind fun u => f (!u) k) else f true k)) r := by
  refine Ev.bind h1 ?_
  cases b1 with
  | false =>
    refine Ev.congr (fun k => if_neg (by simp)) ?_
    rcases hno with hno | ⟨h, _⟩
    · exact hno
    · cases h
  | true =>
    refine Ev.congr (fun k => if_pos rfl) (Ev.bind h2 ?_)
    cases b2 with
    | false =>
      rcases hno with hno | ⟨_, h⟩
      · exact hno
      · cases h
    | true => exact hyes rfl rfl
theorem cross_tells {p q : Rat} (hp : fits p = true) (hq : fits q = true) : Ev (fun k => rat_cross.f k (ratOf p).1 (ratOf p).2.1 (ratOf p).2.2 (ratOf q).1 (ratOf q).2.1 (ratOf q).2.2) (I (p.num * q.den)) := by
  obtain ⟨h1, h2⟩ := fits_len hp
  obtain ⟨h3, h4⟩ := fits_len hq
  have s := wmul_tells (ratOf p).1 (l1 := (ratOf p).2.1) (N_limbs _) false (l2 := (ratOf q).2.2) (N_limbs _) (by show len p.num.natAbs < _; omega) (by show len q.den < _; omega)
  have e : Z false (ratOf q).2.2 = (q.den : Int) := by
    unfold Z
    rw [if_neg (by simp)]
    show (((V (N q.den) : Nat)) : Int) = _
    rw [V_N]
  rw [Z_ratOf, e] at s
  exact eta2 _ s
theorem len_mul (a b : Nat) : len (a * b) ≤ len a + len b := len_le.2 (by rw [Nat.pow_add]; exact Nat.mul_lt_mul'' (lt_len a) (lt_len b))
theorem len_mulZ (a b : Int) : len (a * b).natAbs ≤ len a.natAbs + len b.natAbs := by rw [Int.natAbs_mul]; exact len_mul _ _
theorem inv_mk (q : Rat) (h : q.num ≠ 0) : q⁻¹ = mkRat (if q.num < 0 then -(q.den : Int) else (q.den : Int)) q.num.natAbs := by
  rw [Rat.inv_def]
  generalize q.num = z at *
  cases z with
  | ofNat n => rw [if_neg (by simp)]; rfl
  | negSucc n =>
    rw [if_pos (Int.negSucc_lt_zero n)]
    show Rat.normalize (-(q.den : Int)) (n + 1) (Nat.succ_ne_zero n) = _
    rw [Rat.normalize_eq_mkRat]
    rfl
theorem div_mk (p q : Rat) (h : q.num ≠ 0) : mkRat (if q.num < 0 then -(p.num * q.den) else p.num * q.den) (p.den * q.num.natAbs) = p / q := by
  rw [Rat.div_def, inv_mk q h]
  conv => rhs; rw [← Rat.mkRat_self p, Rat.mkRat_mul_mkRat]
  split
  · rw [Int.mul_neg]
  · rfl
theorem rdiv_tells {a b : R3} (ha : LR a) (hb : LR b) : Ev (fun k => rat_Div.f k a.1 a.2.1 a.2.2 b.1 b.2.1 b.2.2) (divS a b) := by
  have g1 := rgood_tells a.1 ha.t ha.b (by have := ha.lt; omega) (by have := ha.lb; omega)
  have g2 := rgood_tells b.1 hb.t hb.b (by have := hb.lt; omega) (by have := hb.lb; omega)
  refine goods (fun x k => rat_Div.j0 k x a.1 a.2.1 a.2.2 b.1 b.2.1 b.2.2) _ _ g1 g2 (fun _ _ => trivial) ?_ ?_
  · by_cases h : (goodB a && goodB b) = true
    · right; simpa using h
    · left
      unfold divS
      rw [if_neg h]
      exact Ev.step (f := fun _ => some (bad 1)) (fun k => by simp [rat_Div.j0, bad]) (Ev.now _)
  · intro x1 x2
    have h1 : goodB a = true := x1
    have h2 : goodB b = true := x2
    unfold divS
    rw [h1, h2, Bool.and_true, if_pos rfl]
    obtain ⟨p, hp, rfl⟩ := good_iff.1 h1
    obtain ⟨q, hq, rfl⟩ := good_iff.1 h2
    rw [qOf_ratOf, qOf_ratOf]
    obtain ⟨f1, f2⟩ := fits_len hp
    obtain ⟨f3, f4⟩ := fits_len hq
    have c1 := len_mulZ p.num q.den
    rw [Int.natAbs_natCast] at c1
    have c3 := len_mul p.den q.num.natAbs
    have s4 := mul_tells (a := (ratOf p).2.2) (b := (ratOf q).2.1) (N_limbs _) (N_limbs _) (by show len p.den < _; omega) (by show len q.num.natAbs < _; omega)
    rw [V_ratOf, show V (ratOf q).2.1 = q.num.natAbs from V_N _] at s4
    have s5 := ratof_tells (!((I (p.num * q.den)).1 == (ratOf q).1)) (I_limbs (p.num * q.den)) (N_limbs (p.den * q.num.natAbs)) (by rw [I_len]; omega) (by rw [N_length]; omega)
    have e : Z (!((I (p.num * q.den)).1 == (ratOf q).1)) (I (p.num * q.den)).2 = if q.num < 0 then -(p.num * q.den) else p.num * q.den := by
      generalize p.num * q.den = z
      unfold Z
      rw [V_I, I_1, show (ratOf q).1 = decide (q.num < 0) from rfl]
      by_cases z1 : z < 0 <;> by_cases z2 : q.num < 0 <;> simp [z1, z2] <;> omega
    rw [e, V_N] at s5
    have e2 : (if p.den * q.num.natAbs = 0 then bad 3 else lim (mkRat (if q.num < 0 then -(p.num * q.den) else p.num * q.den) (p.den * q.num.natAbs))) = if q = 0 then bad 3 else lim (p / q) := by
      by_cases hz : q.num = 0
      · have : q = 0 := Rat.num_eq_zero.1 hz
        rw [if_pos (by rw [hz]; simp), if_pos this]
      · rw [if_neg (Nat.mul_ne_zero p.den_nz (by omega)), if_neg (show ¬ q = 0 from fun h => hz (by rw [h]; rfl)), div_mk p q hz]
    rw [e2] at s5
    refine Ev.step (f := fun k => ((rat_cross.f k (ratOf p).1 (ratOf p).2.1 (ratOf p).2.2 (ratOf q).1 (ratOf q).2.1 (ratOf q).2.2).bind fun bt475 => ((mul_Of.f k (ratOf p).2.2 (ratOf q).2.1).bind fun t480 => ((rat_Of.f k (!(bt475.1 == (ratOf q).1)) bt475.2 t480).bind fun bt483 => (some (bt483.1, bt483.2.1, bt483.2.2.1, bt483.2.2.2)))))) (fun k => by simp only [rat_Div.j0]; rw [if_neg (by simp)]; rfl) ?_
    exact Ev.bind (cross_tells hp hq) (Ev.bind s4 (eta4 s5))
theorem wof_tells (v : Int) (h0 : -9223372036854775808 ≤ v) (h1 : v ≤ 9223372036854775807) : Ev (fun k => whole_Of.f k v) (I v) := by
  have hl : len v.natAbs ≤ 2 := len_le.2 (by omega)
  by_cases h : v < 0
  · refine Ev.congr (fun k => if_pos h) ?_
    have e : IntKind.u64.wrap (-(IntKind.u64.wrap v)) = ((v.natAbs : Nat) : Int) := by rw [IntKind.wrap_u64, IntKind.wrap_u64]; omega
    rw [e]
    have s := nat_of_tells (v := ((v.natAbs : Nat) : Int)) (by omega) (by omega)
    rw [Int.toNat_natCast] at s
    have s2 := eta2 _ (made_tells true (N_limbs v.natAbs) (by rw [N_length]; omega))
    have e2 : Z true (N v.natAbs) = v := by unfold Z; rw [V_N, if_pos rfl]; omega
    rw [e2] at s2
    exact Ev.bind s s2
  · refine Ev.congr (fun k => if_neg h) ?_
    have e : IntKind.u64.wrap v = ((v.natAbs : Nat) : Int) := by rw [IntKind.wrap_u64]; omega
    rw [e]
    have s := nat_of_tells (v := ((v.natAbs : Nat) : Int)) (by omega) (by omega)
    rw [Int.toNat_natCast] at s
    have s2 := eta2 _ (made_tells false (N_limbs v.natAbs) (by rw [N_length]; omega))
    have e2 : Z false (N v.natAbs) = v := by unfold Z; rw [V_N, if_neg (by simp)]; omega
    rw [e2] at s2
    exact Ev.bind s s2
theorem ratOf_int (v : Int) : ratOf (v : Rat) = ((I v).1, (I v).2, N 1) := by
  unfold ratOf I
  rw [Rat.num_intCast, Rat.den_intCast]
theorem rwhole_tells (v : Int) (h0 : -9223372036854775808 ≤ v) (h1 : v ≤ 9223372036854775807) : Ev (fun k => rat_Whole.f k v) (ratOf (v : Rat)) := by
  rw [ratOf_int]
  have s2 := nat_of_tells (v := 1) (by omega) (by omega)
  exact Ev.bind (wof_tells v h0 h1) (Ev.bind s2 (Ev.now _))
end Go.Proofs.Yticngjjdjmadgaa.Num
end
section
set_option linter.unusedVariables false
set_option linter.unusedSimpArgs false
namespace Go.Proofs.Yticngjjdjmadgaa.Num
open Go.RowKit Go.Proofs.YticngjjdjmadgaaW.PrintWords Go.Proofs.YticngjjdjmadgaaW.PrintMore Go.Proofs.Yticngjjdjmadgaa.PL Go.Proofs.Yticngjjdjmadgaa.PU

theorem N_one : N 1 = [1] := by rw [N_pos (by omega), N_zero]; rfl
theorem is_one (g : Nat) : (if ((N g).length : Int) = 1 then (if 0 < ((N g).length : Int) then some (rd (N g) 0 == 1) else none) else some false) = some (decide (g = 1)) := by
  by_cases h : g = 1
  · subst h; rw [N_one]; rfl
  · rw [decide_eq_false h]
    by_cases h1 : len g = 1
    · rw [N_length, if_pos (by omega), if_pos (by omega)]
      have e : rd (N g) 0 = (g : Int) := by
        have h2 := rd_V (N_limbs g) 0
        have h3 := rd_nonneg (N_limbs g) ((0 : Nat) : Int)
        have h4 := len_le.1 (Nat.le_of_eq h1)
        rw [V_N, Nat.pow_zero, Nat.div_one] at h2
        rw [Nat.pow_one] at h4
        rw [Nat.mod_eq_of_lt h4] at h2
        have : rd (N g) 0 = rd (N g) ((0 : Nat) : Int) := rfl
        omega
      rw [e]
      congr 1
      exact beq_eq_false_iff_ne.2 (by omega)
    · rw [N_length, if_neg (by omega)]
structure LB (a : R3) : Prop where
  t : Limbs a.2.1
  b : Limbs a.2.2
  lt : a.2.1.length < 9223372036854775808
  lb : a.2.2.length < 9223372036854775808
theorem good7_tells {a : R3} (ha : LB a) : Ev (fun k => steelyardref07_Good.f k a.1 a.2.1 a.2.2) (goodB a) := by
  obtain ⟨neg, l, b⟩ := a
  have hl := ha.t
  have hb := ha.b
  have hsl := ha.lt
  have hsb := ha.lb
  dsimp only at hl hb hsl hsb
  unfold goodB
  dsimp only
  refine Ev.congr (f := fun k => if decide (N (V l) = l) = true then (if decide (N (V b) = b) = true then (if (b.length : Int) = 0 then (some false) else (if neg = true then (if (l.length : Int) = 0 then (some false) else (if (l.length : Int) > 64 then (some false) else (if (b.length : Int) > 64 then (some false) else ((steelyardref03_Gcd.f k l b).bind fun t710 => (if (t710.length : Int) = 1 then (if 0 < (t710.length : Int) then (some ((rd t710 0) == 1)) else (none)) else (some false)))))) else (if (l.length : Int) > 64 then (some false) else (if (b.length : Int) > 64 then (some false) else ((steelyardref03_Gcd.f k l b).bind fun t714 => (if (t714.length : Int) = 1 then (if 0 < (t714.length : Int) then (some ((rd t714 0) == 1)) else (none)) else (some false))))))) else (some false)) else (some false)) (fun k => by
    unfold steelyardref07_Good.f
    rw [trimmed7_tells hl (by omega), trimmed7_tells hb (by omega)]
    rfl) ?_
  have s : l.length ≤ 64 → b.length ≤ 64 → Ev (fun k => (steelyardref03_Gcd.f k l b).bind fun t710 => (if (t710.length : Int) = 1 then (if 0 < (t710.length : Int) then (some ((rd t710 0) == 1)) else (none)) else (some false))) (decide (Nat.gcd (V l) (V b) = 1)) :=
    fun x1 x2 => Ev.bind (gcd3_tells hl hb (by omega) (by omega)) (Ev.congr (fun _ => is_one _) (Ev.now _))
  by_cases h1 : N (V l) = l
  · refine Ev.congr (fun k => if_pos (decide_eq_true h1)) ?_
    by_cases h2 : N (V b) = b
    · refine Ev.congr (fun k => if_pos (decide_eq_true h2)) ?_
      by_cases h3 : b.length = 0
      · exact Ev.congr (fun k => if_pos (by omega)) (by simpa [h3] using Ev.now false)
      · refine Ev.congr (fun k => if_neg (by omega)) ?_
        have rest : Ev (fun k => if (l.length : Int) > 64 then (some false) else (if (b.length : Int) > 64 then (some false) else ((steelyardref03_Gcd.f k l b).bind fun t710 => (if (t710.length : Int) = 1 then (if 0 < (t710.length : Int) then (some ((rd t710 0) == 1)) else (none)) else (some false))))) (decide (b.length ≤ 64) && decide (l.length ≤ 64) && decide (Nat.gcd (V l) (V b) = 1)) := by
          by_cases h5 : l.length ≤ 64
          · refine Ev.congr (fun k => if_neg (by omega)) ?_
            by_cases h4 : b.length ≤ 64
            · refine Ev.congr (fun k => if_neg (by omega)) ?_
              rw [decide_eq_true h4, decide_eq_true h5]
              exact s h5 h4
            · refine Ev.congr (fun k => if_pos (by omega)) ?_
              rw [decide_eq_false h4]
              exact Ev.now _
          · refine Ev.congr (fun k => if_pos (by omega)) ?_
            rw [decide_eq_false h5, Bool.and_false]
            exact Ev.now _
        rw [decide_eq_true h1, decide_eq_true h2, decide_eq_true h3]
        cases neg with
        | false =>
          refine Ev.congr (fun k => if_neg (by simp)) ?_
          simpa using rest
        | true =>
          refine Ev.congr (fun k => if_pos rfl) ?_
          by_cases h6 : l.length = 0
          · refine Ev.congr (fun k => if_pos (by omega)) ?_
            rw [decide_eq_true h6]
            simpa using Ev.now false
          · refine Ev.congr (fun k => if_neg (by omega)) ?_
            rw [decide_eq_false h6]
            simpa using rest
    · refine Ev.congr (fun k => if_neg (by simpa using h2)) ?_
      rw [decide_eq_false h2]
      simpa using Ev.now false
  · refine Ev.congr (fun k => if_neg (by simpa using h1)) ?_
    rw [decide_eq_false h1]
    simpa using Ev.now false
theorem keepint_tells (n1 : Bool) (l1 : List Int) (n2 : Bool) (l2 : List Int) (h : l1.length < 1099511627776) : Ev (fun k => steelyardkeep_Int.f k n1 l1 n2 l2) (decide ((n1, l1) = (n2, l2))) := by
  by_cases h1 : n1 = n2
  · have : decide ((n1, l1) = (n2, l2)) = decide (l1 = l2) := by rw [decide_eq_decide]; simp [h1]
    rw [this]
    exact Ev.congr (fun k => if_pos (by simpa using h1)) (Ev.bind (same_tells l1 l2 h) (Ev.now _))
  · rw [decide_eq_false (show ¬ (n1, l1) = (n2, l2) from by simp [h1])]
    exact Ev.congr (fun k => if_neg (by simpa using h1)) (Ev.now _)
theorem keep_tells (a b : R3) (h1 : a.2.1.length < 1099511627776) (h2 : a.2.2.length < 1099511627776) : Ev (fun k => steelyardkeep_Rat.f k a.1 a.2.1 a.2.2 b.1 b.2.1 b.2.2) (decide (a = b)) := by
  obtain ⟨a1, a2, a3⟩ := a
  obtain ⟨b1, b2, b3⟩ := b
  refine Ev.bind (keepint_tells a1 a2 b1 b2 h1) ?_
  by_cases h : (a1, a2) = (b1, b2)
  · have e : decide ((a1, a2, a3) = (b1, b2, b3)) = decide (a3 = b3) := by
      rw [decide_eq_decide]
      simp only [Prod.mk.injEq] at h ⊢
      simp [h]
    rw [e]
    exact Ev.congr (fun k => if_pos (decide_eq_true h)) (Ev.bind (same_tells a3 b3 h2) (Ev.now _))
  · have e : decide ((a1, a2, a3) = (b1, b2, b3)) = false := decide_eq_false (fun h3 => h (by simp only [Prod.mk.injEq] at h3 ⊢; exact ⟨h3.1, h3.2.1⟩))
    rw [e]
    exact Ev.congr (fun k => if_neg (show ¬ decide ((a1, a2) = (b1, b2)) = true from by rw [decide_eq_false h]; simp)) (Ev.now _)
theorem own_tells (a : R3) (h1 : a.2.1.length < 1099511627776) (h2 : a.2.2.length < 1099511627776) : steelyardkeep_OwnRat.f a.1 a.2.1 a.2.2 = some a := by
  unfold steelyardkeep_OwnRat.f steelyardkeep_OwnInt.f steelyardkeep_OwnNat.f
  simp only [Option.bind_some, List.nil_append, List.length_nil, Nat.zero_add]
  rw [if_pos (by omega), if_pos (by omega)]
  rfl

theorem mul_mk (p : Rat) (m : Nat) : mkRat (p.num * (m : Int)) p.den = p * (m : Rat) := by
  conv => rhs; rw [← Rat.mkRat_self p]
  rw [← Rat.mkRat_self (m : Rat), Rat.num_natCast, Rat.den_natCast, Rat.mkRat_mul_mkRat, Nat.mul_one]
theorem div_mk' (p : Rat) (m : Nat) (hm : m ≠ 0) : mkRat p.num (p.den * m) = p / (m : Rat) := by
  have h := div_mk p (m : Rat) (by rw [Rat.num_natCast]; omega)
  rw [Rat.num_natCast, Rat.den_natCast, if_neg (by omega), Int.natAbs_natCast] at h
  rw [← h]
  simp
def ten (n : Int) : Rat := if n < 0 then (((10 ^ n.natAbs : Nat)) : Rat)⁻¹ else ((10 ^ n.natAbs : Nat) : Rat)
def scS (a : R3) (n : Int) : R4 := if goodB a = true then (if -600 ≤ n ∧ n ≤ 600 then lim (qOf a * ten n) else bad 2) else bad 1
theorem len_ten (m : Nat) (h : m ≤ 600) : len (10 ^ m) ≤ 63 := Nat.le_trans (len_mono (Nat.pow_le_pow_right (by omega) h)) (len_le.2 (by decide +kernel))
theorem scale_tells {a : R3} (ha : LR a) (n : Int) (h0 : -9223372036854775808 ≤ n) (h1 : n ≤ 9223372036854775807) : Ev (fun k => power_Scale.f k a.1 a.2.1 a.2.2 n) (scS a n) := by
  have g1 := rgood_tells a.1 ha.t ha.b (by have := ha.lt; omega) (by have := ha.lb; omega)
  refine Ev.bind g1 ?_
  unfold scS
  show Ev _ (if goodB a = true then _ else _)
  by_cases h : goodB a = true
  · rw [if_pos h]
    refine Ev.congr (fun k => if_pos h) ?_
    obtain ⟨p, hp, rfl⟩ := good_iff.1 h
    obtain ⟨f1, f2⟩ := fits_len hp
    rw [qOf_ratOf, within_tells n 600 (by omega) (by omega)]
    refine Ev.bind (Ev.now _) ?_
    by_cases hw : -600 ≤ n ∧ n ≤ 600
    · rw [if_pos hw]
      refine Ev.congr (fun k => if_pos (decide_eq_true hw)) ?_
      have e1 : mx n (wrap64 (-n)) = ((n.natAbs : Nat) : Int) := by
        rw [w64 (by omega) (by omega)]
        unfold mx
        split <;> omega
      have hm : n.natAbs ≤ 600 := by omega
      have hl := len_ten n.natAbs hm
      have s1 := nat_of_tells (v := 10) (by omega) (by omega)
      have s2 := pow_tells (N_limbs 10) (by rw [N_length]; have := len_ten 1 (by omega); rw [Nat.pow_one] at this; omega) n.natAbs (by omega)
      rw [V_N, if_pos (by omega)] at s2
      rw [e1]
      refine Ev.bind s1 (Ev.bind s2 ?_)
      have hpos : 10 ^ n.natAbs ≠ 0 := Nat.ne_of_gt (Nat.pow_pos (by omega))
      unfold ten
      generalize 10 ^ n.natAbs = t at *
      by_cases hn : n < 0
      · refine Ev.congr (fun k => if_pos hn) ?_
        rw [if_pos hn, ← Rat.div_def, ← div_mk' p t hpos]
        have s3 := mul_tells (a := (ratOf p).2.2) (b := N t) (N_limbs _) (N_limbs _) (by show len p.den < _; omega) (by rw [N_length]; omega)
        rw [V_ratOf, V_N] at s3
        have c := len_mul p.den t
        have s4 := ratof_tells (ratOf p).1 (l := (ratOf p).2.1) (b := N (p.den * t)) (N_limbs _) (N_limbs _) (by show len p.num.natAbs < _; omega) (by rw [N_length]; omega)
        rw [Z_ratOf, V_N, if_neg (Nat.mul_ne_zero p.den_nz hpos)] at s4
        exact Ev.bind s3 (eta4 s4)
      · refine Ev.congr (fun k => if_neg hn) ?_
        rw [if_neg hn, ← mul_mk p t]
        have s3 := mul_tells (a := (ratOf p).2.1) (b := N t) (N_limbs _) (N_limbs _) (by show len p.num.natAbs < _; omega) (by rw [N_length]; omega)
        rw [show V (ratOf p).2.1 = p.num.natAbs from V_N _, V_N] at s3
        have c := len_mul p.num.natAbs t
        have s4 := ratof_tells (ratOf p).1 (l := N (p.num.natAbs * t)) (b := (ratOf p).2.2) (N_limbs _) (N_limbs _) (by rw [N_length]; omega) (by show len p.den < _; omega)
        have e2 : Z (ratOf p).1 (N (p.num.natAbs * t)) = p.num * (t : Int) := by
          unfold Z
          rw [V_N, show (ratOf p).1 = decide (p.num < 0) from rfl, Int.natCast_mul]
          by_cases hz : p.num < 0
          · rw [if_pos (decide_eq_true hz), ← Int.neg_mul]
            congr 1
            omega
          · rw [if_neg (by simp [hz])]
            congr 1
            omega
        rw [e2, V_ratOf, if_neg p.den_nz] at s4
        exact Ev.bind s3 (eta4 s4)
    · rw [if_neg hw]
      exact Ev.congr (fun k => if_neg (by rw [decide_eq_false hw]; simp)) (Ev.now _)
  · rw [if_neg h]
    exact Ev.congr (fun k => if_neg h) (Ev.now _)
end Go.Proofs.Yticngjjdjmadgaa.Num
end
section
set_option linter.unusedVariables false
set_option linter.unusedSimpArgs false
namespace Go.Proofs.Yticngjjdjmadgaa.Num
open Go.RowKit Go.Proofs.YticngjjdjmadgaaW.PrintWords Go.Proofs.YticngjjdjmadgaaW.PrintMore Go.Proofs.Yticngjjdjmadgaa.PL Go.Proofs.Yticngjjdjmadgaa.PU

def powS (a : R3) (n : Int) : R4 := if goodB a = true then (if -128 ≤ n ∧ n ≤ 128 then (if n < 0 ∧ qOf a = 0 then bad 3 else lim (qOf a ^ n)) else bad 2) else bad 1
theorem pow_sign (p : Rat) (e : Nat) (h0 : 0 < e) (h1 : e ≤ 128) : Z ((ratOf p).1 && (Int.tmod (e : Int) 2 == 1)) (N (p.num.natAbs ^ e)) = p.num ^ e := by
  unfold Z
  rw [V_N, show (ratOf p).1 = decide (p.num < 0) from rfl]
  generalize p.num = z
  have ht : Int.tmod (e : Int) 2 = ((e % 2 : Nat) : Int) := rfl
  rw [ht]
  by_cases hz : z < 0
  · rw [decide_eq_true hz, Bool.true_and]
    obtain ⟨m, rfl⟩ : ∃ m : Nat, z = -(m : Int) := ⟨z.natAbs, by omega⟩
    rw [Int.natAbs_neg, Int.natAbs_natCast, Int.natCast_pow]
    rcases Nat.mod_two_eq_zero_or_one e with h | h
    · rw [h, if_neg (by decide)]
      obtain ⟨c, hc⟩ : ∃ c, e = 2 * c := ⟨e / 2, by omega⟩
      rw [hc, Int.pow_mul, Int.pow_mul]
      congr 1
      rw [Int.pow_succ, Int.pow_succ, Int.pow_succ, Int.pow_succ, Int.pow_zero, Int.pow_zero, Int.one_mul, Int.one_mul, Int.neg_mul_neg]
    · rw [h, if_pos (by decide)]
      obtain ⟨c, hc⟩ : ∃ c, e = 2 * c + 1 := ⟨e / 2, by omega⟩
      rw [hc, Int.pow_succ, Int.pow_succ, Int.pow_mul, Int.pow_mul, Int.mul_neg]
      congr 3
      rw [Int.pow_succ, Int.pow_succ, Int.pow_succ, Int.pow_succ, Int.pow_zero, Int.pow_zero, Int.one_mul, Int.one_mul, Int.neg_mul_neg]
  · rw [decide_eq_false hz, Bool.false_and, if_neg (by simp), Int.natCast_pow]
    congr 1
    omega
theorem pow_mk (p : Rat) (e : Nat) : mkRat (p.num ^ e) (p.den ^ e) = p ^ e := by
  have := Rat.mkRat_self (p ^ e)
  rw [Rat.num_pow, Rat.den_pow] at this
  exact this
theorem pow_far (p : Rat) (e : Nat) (h : ¬ (len (p.num.natAbs ^ e) ≤ 256) ∨ ¬ (len (p.den ^ e) ≤ 256)) : lim (p ^ e) = bad 2 := by
  unfold lim
  rw [if_neg]
  unfold fits
  rw [Rat.num_pow, Rat.den_pow, Int.natAbs_pow]
  intro h2
  simp only [Bool.and_eq_true, decide_eq_true_eq] at h2
  omega
theorem power_pos {p : Rat} (hp : fits p = true) (e : Nat) (h0 : 0 < e) (h1 : e ≤ 128) : Ev (fun k => power_Of.f k (ratOf p).1 (ratOf p).2.1 (ratOf p).2.2 (e : Int)) (lim (p ^ e)) := by
  have hL := LR_ratOf hp
  obtain ⟨f1, f2⟩ := fits_len hp
  have g1 := rgood_tells (ratOf p).1 hL.t hL.b (by have := hL.lt; omega) (by have := hL.lb; omega)
  rw [show ((ratOf p).1, (ratOf p).2.1, (ratOf p).2.2) = ratOf p from rfl, good_ratOf hp] at g1
  have s1 := pow_tells (a := (ratOf p).2.1) (N_limbs _) (by show len p.num.natAbs < _; omega) e (by omega)
  rw [show V (ratOf p).2.1 = p.num.natAbs from V_N _] at s1
  have s2 := pow_tells (a := (ratOf p).2.2) (N_limbs _) (by show len p.den < _; omega) e (by omega)
  rw [V_ratOf] at s2
  refine Ev.step (fun k => power_Of.f.eq_2 _ _ _ _ k) ?_
  rw [within_tells (e : Int) 128 (by omega) (by omega)]
  refine Ev.bind g1 (Ev.congr (fun k => if_pos rfl) (Ev.bind (Ev.now _) ?_))
  refine Ev.congr (fun k => if_pos (decide_eq_true (by omega))) ?_
  refine Ev.congr (fun k => if_neg (by omega)) ?_
  refine Ev.congr (fun k => if_neg (by omega)) ?_
  refine Ev.bind s1 (Ev.bind s2 ?_)
  by_cases hA : len (p.num.natAbs ^ e) ≤ 256
  · rw [if_pos hA]
    refine Ev.congr (fun k => if_pos rfl) ?_
    by_cases hB : len (p.den ^ e) ≤ 256
    · rw [if_pos hB]
      refine Ev.congr (fun k => if_pos rfl) ?_
      refine Ev.congr (fun k => if_pos (by omega)) ?_
      refine Ev.congr (fun k => if_pos (by rw [Int.toNat_natCast, N_length]; omega)) ?_
      rw [Int.toNat_natCast, splice_all]
      refine Ev.bind (Ev.now _) ?_
      have s3 := ratof_tells ((ratOf p).1 && (Int.tmod (e : Int) 2 == 1)) (l := N (p.num.natAbs ^ e)) (b := N (p.den ^ e)) (N_limbs _) (N_limbs _) (by rw [N_length]; omega) (by rw [N_length]; omega)
      rw [pow_sign p e h0 h1, V_N, if_neg (Nat.ne_of_gt (Nat.pow_pos (Nat.pos_of_ne_zero p.den_nz))), pow_mk] at s3
      by_cases hs : (ratOf p).1 = true
      · rw [hs, Bool.true_and] at s3
        exact Ev.congr (fun k => if_pos hs) (eta4 s3)
      · rw [Bool.eq_false_iff.2 hs, Bool.false_and] at s3
        exact Ev.congr (fun k => if_neg hs) (eta4 s3)
    · rw [if_neg hB, pow_far p e (Or.inr hB)]
      exact Ev.congr (fun k => if_neg (by simp)) (Ev.now _)
  · rw [if_neg hA, pow_far p e (Or.inl hA)]
    exact Ev.congr (fun k => if_neg (by simp)) (Ev.now _)
theorem inv_parts (q : Rat) (h : q ≠ 0) : (q⁻¹).num.natAbs = q.den ∧ (q⁻¹).den = q.num.natAbs := by
  have hz : q.num ≠ 0 := fun h2 => h (Rat.num_eq_zero.1 h2)
  rw [inv_mk q hz]
  obtain ⟨p1, p2, _⟩ := mk_parts (if q.num < 0 then -(q.den : Int) else (q.den : Int)) q.num.natAbs (by omega)
  have e : (if q.num < 0 then -(q.den : Int) else (q.den : Int)).natAbs = q.den := by split <;> omega
  have hr : Nat.gcd q.den q.num.natAbs = 1 := by rw [Nat.gcd_comm]; exact q.reduced
  rw [e, hr, Nat.div_one] at p1 p2
  exact ⟨p1, p2⟩
theorem fits_inv {q : Rat} (hq : fits q = true) (h : q ≠ 0) : fits q⁻¹ = true := by
  obtain ⟨f1, f2⟩ := fits_len hq
  obtain ⟨e1, e2⟩ := inv_parts q h
  unfold fits
  rw [e1, e2, decide_eq_true f1, decide_eq_true f2]
  rfl
theorem inv_pow (p : Rat) (e : Nat) : p⁻¹ ^ e = (p ^ e)⁻¹ := by
  induction e with
  | zero => rw [Rat.pow_zero, Rat.pow_zero]; decide +kernel
  | succ e ih => rw [Rat.pow_succ, Rat.pow_succ, ih, Rat.inv_mul_rev, Rat.mul_comm]
theorem turned_tells {p : Rat} (hp : fits p = true) : Ev (fun k => power_turned.f k (ratOf p).1 (ratOf p).2.1 (ratOf p).2.2) (if p = 0 then bad 3 else ((ratOf p⁻¹).1, (ratOf p⁻¹).2.1, (ratOf p⁻¹).2.2, 0)) := by
  have k1 : fits (1 : Rat) = true := by decide +kernel
  have s2 := rdiv_tells (LR_ratOf k1) (LR_ratOf hp)
  have e : divS (ratOf 1) (ratOf p) = if p = 0 then bad 3 else ((ratOf p⁻¹).1, (ratOf p⁻¹).2.1, (ratOf p⁻¹).2.2, 0) := by
    unfold divS
    rw [good_ratOf k1, good_ratOf hp, qOf_ratOf, qOf_ratOf]
    by_cases h : p = 0
    · rw [if_pos h, if_pos h]
      rfl
    · rw [if_neg h, if_neg h, Rat.div_def, Rat.one_mul]
      unfold lim
      rw [if_pos (fits_inv hp h)]
      rfl
  rw [e] at s2
  exact Ev.bind (rwhole_tells 1 (by omega) (by omega)) (eta4 s2)
theorem power_tells {a : R3} (ha : LR a) (n : Int) (h0 : -9223372036854775808 ≤ n) (h1 : n ≤ 9223372036854775807) : Ev (fun k => power_Of.f k a.1 a.2.1 a.2.2 n) (powS a n) := by
  by_cases hpos : goodB a = true ∧ 0 < n ∧ n ≤ 128
  · obtain ⟨x1, x2, x3⟩ := hpos
    unfold powS
    rw [if_pos x1, if_pos ⟨by omega, x3⟩, if_neg (by omega)]
    obtain ⟨p, hp, rfl⟩ := good_iff.1 x1
    rw [qOf_ratOf]
    obtain ⟨e, rfl⟩ : ∃ e : Nat, n = (e : Int) := ⟨n.natAbs, by omega⟩
    rw [Rat.zpow_natCast]
    exact power_pos hp e (by omega) (by omega)
  have g1 := rgood_tells a.1 ha.t ha.b (by have := ha.lt; omega) (by have := ha.lb; omega)
  refine Ev.step (fun k => power_Of.f.eq_2 _ _ _ _ k) ?_
  rw [within_tells n 128 (by omega) (by omega)]
  refine Ev.bind g1 ?_
  unfold powS
  show Ev _ (if goodB a = true then _ else _)
  by_cases h : goodB a = true
  case neg => rw [if_neg h]; exact Ev.congr (fun k => if_neg h) (Ev.now _)
  rw [if_pos h]
  refine Ev.congr (fun k => if_pos h) (Ev.bind (Ev.now _) ?_)
  obtain ⟨p, hp, rfl⟩ := good_iff.1 h
  rw [qOf_ratOf]
  by_cases hw : -128 ≤ n ∧ n ≤ 128
  case neg => rw [if_neg hw]; exact Ev.congr (fun k => if_neg (by rw [decide_eq_false hw]; simp)) (Ev.now _)
  rw [if_pos hw]
  refine Ev.congr (fun k => if_pos (decide_eq_true hw)) ?_
  by_cases hz : n = 0
  · subst hz
    rw [if_neg (by omega), Rat.zpow_zero]
    refine Ev.congr (fun k => if_pos rfl) (Ev.bind (rwhole_tells 1 (by omega) (by omega)) (Ev.congr (fun k => ?_) (Ev.now _)))
    unfold lim
    rw [if_pos (show fits 1 = true by decide +kernel)]
    rfl
  refine Ev.congr (fun k => if_neg hz) ?_
  by_cases hn : n < 0
  · refine Ev.congr (fun k => if_pos hn) (Ev.bind (turned_tells hp) ?_)
    by_cases hp0 : p = 0
    · rw [if_pos hp0, if_pos ⟨hn, hp0⟩]
      exact Ev.congr (fun k => if_neg (by show ¬ (3 : Int) = 0; omega)) (Ev.now _)
    · rw [if_neg hp0, if_neg (fun hh => hp0 hh.2)]
      refine Ev.congr (fun k => if_pos rfl) ?_
      rw [w64 (x := -n) (by omega) (by omega)]
      obtain ⟨e, rfl⟩ : ∃ e : Nat, n = -(e : Int) := ⟨n.natAbs, by omega⟩
      have s := power_pos (fits_inv hp hp0) e (by omega) (by omega)
      rw [Int.neg_neg, Rat.zpow_neg, Rat.zpow_natCast]
      have e1 : p⁻¹ ^ e = (p ^ e)⁻¹ := by
        exact inv_pow p e
      rw [e1] at s
      exact eta4 s
  · rw [if_neg (fun hh => hn hh.1)]
    obtain ⟨e, rfl⟩ : ∃ e : Nat, n = (e : Int) := ⟨n.natAbs, by omega⟩
    rw [Rat.zpow_natCast]
    exact absurd ⟨h, by omega, hw.2⟩ hpos
end Go.Proofs.Yticngjjdjmadgaa.Num
end
section
set_option linter.unusedVariables false
set_option linter.unusedSimpArgs false
namespace Go.Proofs.Yticngjjdjmadgaa.Num
open Go.RowKit Go.Proofs.YticngjjdjmadgaaW.PrintWords Go.Proofs.YticngjjdjmadgaaW.PrintMore Go.Proofs.Yticngjjdjmadgaa.PL Go.Proofs.Yticngjjdjmadgaa.PU

theorem len_pow (a e : Nat) : len (a ^ e) ≤ e * len a + 1 := by
  induction e with
  | zero => rw [Nat.pow_zero, Nat.zero_mul]; exact len_le.2 (by decide)
  | succ e ih =>
    rw [Nat.pow_succ, Nat.succ_mul]
    have := len_mul (a ^ e) a
    omega
theorem zpow_inv (p : Rat) (e : Nat) : p ^ (-(e : Int)) = (p ^ e)⁻¹ := by rw [Rat.zpow_neg, Rat.zpow_natCast]
theorem pow_ne {p : Rat} (h : p ≠ 0) (e : Nat) : p ^ e ≠ 0 := by
  induction e with
  | zero => rw [Rat.pow_zero]; decide +kernel
  | succ e ih =>
    rw [Rat.pow_succ]
    intro h2
    rcases Rat.mul_eq_zero.1 h2 with h3 | h3
    · exact ih h3
    · exact h h3
theorem fits_one : fits (1 : Rat) = true := by decide +kernel
end Go.Proofs.Yticngjjdjmadgaa.Num
end
section
set_option linter.unusedVariables false
set_option linter.unusedSimpArgs false
namespace Go.Proofs.Yticngjjdjmadgaa.Num
open Go.RowKit Go.Proofs.YticngjjdjmadgaaW.PrintWords Go.Proofs.YticngjjdjmadgaaW.PrintMore Go.Proofs.Yticngjjdjmadgaa.PL Go.Proofs.Yticngjjdjmadgaa.PU
open Go.Proofs.Yticngjjdjmadgaa.Den (U)

abbrev ur (a : R3) : U := .agg [.v (.bool a.1), .l a.2.1, .l a.2.2]
abbrev ui (n : Int) : U := .v (.int .i64 n)
abbrev ub (b : Bool) : U := .v (.bool b)
abbrev ut (a : R4) : U := .tup [.agg [.v (.bool a.1), .l a.2.1, .l a.2.2.1], .v (.int .i64 a.2.2.2)]
theorem keep_R {a b : R3} (ha : LR a) : steelyardkeep_Rat.R [ur a, ur b] (ub (decide (a = b))) := by obtain ⟨k, hk⟩ := (keep_tells a b (by have := ha.lt; omega) (by have := ha.lb; omega)).rounds; exact steelyardkeep_Rat.I hk
theorem keep_S {a : R3} (ha : LR a) : steelyardkeep_Rat.R [ur a, ur a] (ub true) := by have := keep_R ha (b := a); rw [decide_eq_true rfl] at this; exact this
end Go.Proofs.Yticngjjdjmadgaa.Num
end
section
set_option linter.unusedVariables false
set_option linter.unusedSimpArgs false
namespace Go.Proofs.Yticngjjdjmadgaa.Num
open Go.RowKit Go.Proofs.YticngjjdjmadgaaW.PrintWords Go.Proofs.YticngjjdjmadgaaW.PrintMore Go.Proofs.Yticngjjdjmadgaa.PL Go.Proofs.Yticngjjdjmadgaa.PU

theorem wakes8 : Ev (fun k => steelyardlaw08_wakes.f k) true := Ev.of steelyardlaw08_wakes.mono (k := 200) (by decide +kernel)
end Go.Proofs.Yticngjjdjmadgaa.Num
end
section
set_option linter.unusedVariables false
set_option linter.unusedSimpArgs false
namespace Go.Proofs.Yticngjjdjmadgaa.Num
open Go.RowKit Go.Proofs.YticngjjdjmadgaaW.PrintWords Go.Proofs.YticngjjdjmadgaaW.PrintMore Go.Proofs.Yticngjjdjmadgaa.PL Go.Proofs.Yticngjjdjmadgaa.PU
open Go.Proofs.Yticngjjdjmadgaa.Den (U)

theorem wakes8_R : steelyardlaw08_wakes.R [] (ub true) := by obtain ⟨k, hk⟩ := wakes8.rounds; exact steelyardlaw08_wakes.I hk
theorem power_R {a : R3} (ha : LR a) (n : Int) (h0 : -9223372036854775808 ≤ n) (h1 : n ≤ 9223372036854775807) : power_Of.R [ur a, ui n] (ut (powS a n)) := by obtain ⟨k, hk⟩ := (power_tells ha n h0 h1).rounds; exact power_Of.I (r1 := (powS a n).1) (r2 := (powS a n).2.1) (r3 := (powS a n).2.2.1) (r4 := (powS a n).2.2.2) hk
end Go.Proofs.Yticngjjdjmadgaa.Num
end
section
set_option linter.unusedVariables false
set_option linter.unusedSimpArgs false
namespace Go.Proofs.Yticngjjdjmadgaa.Num
open Go.RowKit Go.Proofs.YticngjjdjmadgaaW.PrintWords Go.Proofs.YticngjjdjmadgaaW.PrintMore Go.Proofs.Yticngjjdjmadgaa.PL Go.Proofs.Yticngjjdjmadgaa.PU

theorem make6_tells (neg : Bool) {l : List Int} (hl : Limbs l) (hs : l.length < 35184372088832) : Ev (fun k => steelyardref06_Make.f k neg l) (I (Z neg l)) :=
  Ev.bind (trim1_tells hl hs) (Ev.congr (fun _ => made_eq neg l) (Ev.now _))
theorem trim6_tells (neg : Bool) {l : List Int} (hl : Limbs l) (hs : l.length < 35184372088832) : Ev (fun k => steelyardref06_Trim.f k neg l) (I (Z neg l)) := eta2 _ (make6_tells neg hl hs)
theorem sign_mul (x y : Int) : Z (decide (x < 0) != decide (y < 0)) (N (x.natAbs * y.natAbs)) = x * y := by
  unfold Z
  rw [V_N, Int.natCast_mul]
  by_cases hx : x < 0 <;> by_cases hy : y < 0
  · rw [decide_eq_true hx, decide_eq_true hy, if_neg (by decide), show ((x.natAbs : Nat) : Int) = -x from by omega, show ((y.natAbs : Nat) : Int) = -y from by omega, Int.neg_mul_neg]
  · rw [decide_eq_true hx, decide_eq_false hy, if_pos (by decide), show ((x.natAbs : Nat) : Int) = -x from by omega, show ((y.natAbs : Nat) : Int) = y from by omega, Int.neg_mul, Int.neg_neg]
  · rw [decide_eq_false hx, decide_eq_true hy, if_pos (by decide), show ((x.natAbs : Nat) : Int) = x from by omega, show ((y.natAbs : Nat) : Int) = -y from by omega, Int.mul_neg, Int.neg_neg]
  · rw [decide_eq_false hx, decide_eq_false hy, if_neg (by decide), show ((x.natAbs : Nat) : Int) = x from by omega, show ((y.natAbs : Nat) : Int) = y from by omega]
theorem mul6_tells (n1 : Bool) {l1 : List Int} (h1 : Limbs l1) (n2 : Bool) {l2 : List Int} (h2 : Limbs l2) (hs1 : l1.length < 1073741824) (hs2 : l2.length < 1073741824) : Ev (fun k => steelyardref06_Mul.f k n1 l1 n2 l2) (I (Z n1 l1 * Z n2 l2)) := by
  have hb : len (V l1 * V l2) ≤ l1.length + l2.length := len_le.2 (by rw [Nat.pow_add]; exact Nat.mul_lt_mul'' (V_lt h1) (V_lt h2))
  have s := eta2 _ (make6_tells (decide (Z n1 l1 < 0) != decide (Z n2 l2 < 0)) (N_limbs (V l1 * V l2)) (by rw [N_length]; omega))
  have e := sign_mul (Z n1 l1) (Z n2 l2)
  rw [Z_abs, Z_abs] at e
  rw [e] at s
  exact Ev.bind (trim6_tells n1 h1 (by omega)) (Ev.bind (trim6_tells n2 h2 (by omega)) (Ev.bind (mul2_tells h1 h2 (by omega) (by omega)) s))
theorem of6_tells (v : Int) (h0 : -9223372036854775808 ≤ v) (h1 : v ≤ 9223372036854775807) : Ev (fun k => steelyardref06_Of.f k v) (I v) := by
  have hl : len v.natAbs ≤ 2 := len_le.2 (by omega)
  by_cases h : v < 0
  · refine Ev.congr (fun k => if_pos h) ?_
    have e : IntKind.u64.wrap (IntKind.u64.wrap (wrap64 (-(wrap64 (v + 1)))) + 1) = ((v.natAbs : Nat) : Int) := by
      rw [w64 (x := v + 1) (by omega) (by omega), w64 (x := -(v + 1)) (by omega) (by omega), IntKind.wrap_u64, IntKind.wrap_u64]
      omega
    rw [e]
    have s := of1_tells (v := ((v.natAbs : Nat) : Int)) (by omega) (by omega)
    rw [Int.toNat_natCast] at s
    have s2 := eta2 _ (make6_tells true (N_limbs v.natAbs) (by rw [N_length]; omega))
    have e2 : Z true (N v.natAbs) = v := by unfold Z; rw [V_N, if_pos rfl]; omega
    rw [e2] at s2
    exact Ev.bind s s2
  · refine Ev.congr (fun k => if_neg h) ?_
    have e : IntKind.u64.wrap v = ((v.natAbs : Nat) : Int) := by rw [IntKind.wrap_u64]; omega
    rw [e]
    have s := of1_tells (v := ((v.natAbs : Nat) : Int)) (by omega) (by omega)
    rw [Int.toNat_natCast] at s
    have s2 := eta2 _ (make6_tells false (N_limbs v.natAbs) (by rw [N_length]; omega))
    have e2 : Z false (N v.natAbs) = v := by unfold Z; rw [V_N, if_neg (by simp)]; omega
    rw [e2] at s2
    exact Ev.bind s s2
theorem whole7_tells (v : Int) (h0 : -9223372036854775808 ≤ v) (h1 : v ≤ 9223372036854775807) : Ev (fun k => steelyardref07_Whole.f k v) (ratOf (v : Rat)) := by
  rw [ratOf_int]
  refine Ev.bind (of6_tells v h0 h1) (Ev.congr (fun k => ?_) (Ev.now _))
  rw [N_one]
theorem wide7_tells (neg : Bool) {l b : List Int} (hl : Limbs l) (hb : Limbs b) (hsl : l.length < 134217728) (hsb : b.length < 134217728) (hz : V b ≠ 0) :
    Ev (fun k => steelyardref07_Wide.f k neg l b) (ratOf (mkRat (Z neg l) (V b))) := by
  have bl : len (Z neg l).natAbs ≤ l.length := by rw [Z_abs]; exact len_V hl
  have bb := len_V hb
  have s0 := trim6_tells neg hl (by omega)
  generalize Z neg l = z at *
  have s1 := gcd3_tells (I_limbs z) hb (by rw [I_len]; omega) (by omega)
  rw [V_I] at s1
  obtain ⟨p1, p2, p3⟩ := mk_parts z (V b) hz
  have hg : 0 < Nat.gcd z.natAbs (V b) := Nat.gcd_pos_of_pos_right _ (by omega)
  have hgb : len (Nat.gcd z.natAbs (V b)) ≤ len (V b) := len_mono (Nat.gcd_le_right _ (by omega))
  have s2 := rem3_tells (I_limbs z) (N_limbs (Nat.gcd z.natAbs (V b))) (by rw [I_len]; omega) (by rw [N_length]; omega)
  rw [V_I, V_N, if_neg (by omega), ← p1] at s2
  have s3 := rem3_tells hb (N_limbs (Nat.gcd z.natAbs (V b))) (by omega) (by rw [N_length]; omega)
  rw [V_N, if_neg (by omega), ← p2] at s3
  have hx : len (mkRat z (V b)).num.natAbs ≤ l.length := by
    rw [p1]
    exact Nat.le_trans (len_mono (Nat.div_le_self _ _)) bl
  have s4 := make6_tells (I z).1 (N_limbs (mkRat z (V b)).num.natAbs) (by rw [N_length]; omega)
  have e : Z (I z).1 (N (mkRat z (V b)).num.natAbs) = (mkRat z (V b)).num := by
    rw [I_1, ← p3]
    exact Z_I _
  rw [e] at s4
  exact Ev.bind s0 (Ev.bind s1 (Ev.bind s2 (Ev.bind s4 (Ev.bind s3 (Ev.now _)))))
theorem limit7 (q : Rat) : steelyardref07_Limit.f (ratOf q).1 (ratOf q).2.1 (ratOf q).2.2 = some (lim q) := by
  unfold steelyardref07_Limit.f lim fits ratOf bad
  dsimp only
  rw [N_length, N_length]
  by_cases h1 : len q.num.natAbs ≤ 64
  · rw [if_neg (by omega)]
    by_cases h2 : len q.den ≤ 64
    · rw [if_neg (by omega), if_pos (by simp [h1, h2])]
    · rw [if_pos (by omega), if_neg (by simp [h2])]
  · rw [if_pos (by omega), if_neg (by simp [h1])]
theorem lim7 {f : Nat → Option R3} {q : Rat} (h : Ev f (ratOf q)) : Ev (fun k => (f k).bind fun b => (steelyardref07_Limit.f b.1 b.2.1 b.2.2).bind fun c => some (c.1, c.2.1, c.2.2.1, c.2.2.2)) (lim q) :=
  Ev.bind h (Ev.congr (fun k => by rw [limit7]; rfl) (Ev.now _))
theorem of7_tells (neg : Bool) {l b : List Int} (hl : Limbs l) (hb : Limbs b) (hsl : l.length < 134217728) (hsb : b.length < 134217728) :
    Ev (fun k => steelyardref07_Of.f k neg l b) (if V b = 0 then bad 3 else lim (mkRat (Z neg l) (V b))) := by
  refine Ev.bind (bits1_tells hb (by omega)) ?_
  by_cases hz : V b = 0
  · rw [if_pos hz, hz]
    exact Ev.congr (fun k => if_pos rfl) (Ev.now _)
  · rw [if_neg hz]
    have hn : nb (V b) ≠ 0 := fun h => by
      have := lt_nb (V b)
      rw [h, Nat.pow_zero] at this
      omega
    exact Ev.congr (fun k => if_neg (by omega)) (lim7 (wide7_tells neg hl hb hsl hsb hz))
end Go.Proofs.Yticngjjdjmadgaa.Num
end
section
set_option linter.unusedVariables false
set_option linter.unusedSimpArgs false
namespace Go.Proofs.Yticngjjdjmadgaa.Num
open Go.RowKit Go.Proofs.YticngjjdjmadgaaW.PrintWords Go.Proofs.YticngjjdjmadgaaW.PrintMore Go.Proofs.Yticngjjdjmadgaa.PL Go.Proofs.Yticngjjdjmadgaa.PU

theorem len_pow64 (a e : Nat) (h : len a ≤ 64) (he : e ≤ 128) : len (a ^ e) ≤ 8193 := by
  have h1 := len_pow a e
  have h2 : e * len a ≤ 128 * 64 := Nat.mul_le_mul he h
  omega
theorem wide_loop {p : Rat} (hp : fits p = true) (n : Nat) (h0 : 0 < n) (hn : n ≤ 128) (d : Nat) : ∀ i : Nat, i + d = n →
    Ev (fun k => steelyardref08_wide.l0 k (n : Int) (N (p.num.natAbs ^ i)) (N (p.den ^ i)) (i : Int) (ratOf p).1 (ratOf p).2.1 (ratOf p).2.2) (ratOf (p ^ n)) := by
  obtain ⟨f1, f2⟩ := fits_len hp
  induction d with
  | zero =>
    intro i hi
    have e : i = n := by omega
    subst e
    have b1 := len_pow64 p.num.natAbs i f1 hn
    have s := make6_tells ((ratOf p).1 && (Int.tmod (i : Int) 2 == 1)) (N_limbs (p.num.natAbs ^ i)) (by rw [N_length]; omega)
    rw [pow_sign p i h0 hn] at s
    refine Ev.step (fun k => steelyardref08_wide.l0.eq_2 _ _ _ _ _ _ _ k) ?_
    refine Ev.congr (fun k => if_neg (by omega)) ?_
    have er : ((I (p.num ^ i)).1, (I (p.num ^ i)).2, N (p.den ^ i)) = ratOf (p ^ i) := rfl
    rw [← er]
    by_cases hs : (ratOf p).1 = true
    · rw [hs, Bool.true_and] at s
      exact Ev.congr (fun k => if_pos hs) (Ev.bind s (Ev.now _))
    · rw [Bool.eq_false_iff.2 hs, Bool.false_and] at s
      exact Ev.congr (fun k => if_neg hs) (Ev.bind s (Ev.now _))
  | succ d ih =>
    intro i hi
    have b1 := len_pow64 p.num.natAbs i f1 (by omega)
    have b2 := len_pow64 p.den i f2 (by omega)
    have s1 := mul2_tells (a := N (p.num.natAbs ^ i)) (b := (ratOf p).2.1) (N_limbs _) (N_limbs _) (by rw [N_length]; omega) (by show len p.num.natAbs < _; omega)
    rw [V_N, show V (ratOf p).2.1 = p.num.natAbs from V_N _, ← Nat.pow_succ] at s1
    have s2 := mul2_tells (a := N (p.den ^ i)) (b := (ratOf p).2.2) (N_limbs _) (N_limbs _) (by rw [N_length]; omega) (by show len p.den < _; omega)
    rw [V_N, V_ratOf, ← Nat.pow_succ] at s2
    have hw : wrap64 ((i : Int) + 1) = ((i + 1 : Nat) : Int) := by rw [w64 (by omega) (by omega)]; rfl
    refine Ev.step (fun k => steelyardref08_wide.l0.eq_2 _ _ _ _ _ _ _ k) ?_
    rw [hw]
    exact Ev.congr (fun k => if_pos (by omega)) (Ev.bind s1 (Ev.bind s2 (ih (i + 1) (by omega))))
theorem wide8_tells {p : Rat} (hp : fits p = true) (n : Nat) (h0 : 0 < n) (hn : n ≤ 128) : Ev (fun k => steelyardref08_wide.f k (ratOf p).1 (ratOf p).2.1 (ratOf p).2.2 (n : Int)) (ratOf (p ^ n)) := by
  have s := wide_loop hp n h0 hn n 0 (by omega)
  rw [Nat.pow_zero, Nat.pow_zero, N_one] at s
  exact s
theorem turned8_tells {q : Rat} (h : q ≠ 0) (hq : len q.den < 35184372088832) : Ev (fun k => steelyardref08_turned.f k (ratOf q).1 (ratOf q).2.1 (ratOf q).2.2) (ratOf q⁻¹) := by
  have s1 := make6_tells (ratOf q).1 (l := (ratOf q).2.2) (N_limbs _) hq
  have hz : q.num ≠ 0 := fun h2 => h (Rat.num_eq_zero.1 h2)
  have e1 : Z (ratOf q).1 (ratOf q).2.2 = if q.num < 0 then -(q.den : Int) else (q.den : Int) := by
    unfold Z
    rw [V_ratOf, show (ratOf q).1 = decide (q.num < 0) from rfl]
    by_cases h : q.num < 0 <;> simp [h]
  rw [e1] at s1
  obtain ⟨e2, e3⟩ := inv_parts q h
  obtain ⟨_, _, e4⟩ := mk_parts (if q.num < 0 then -(q.den : Int) else (q.den : Int)) q.num.natAbs (by omega)
  rw [← inv_mk q hz] at e4
  have e5 : (if q.num < 0 then -(q.den : Int) else (q.den : Int)).natAbs = q.den := by split <;> omega
  have er : ratOf q⁻¹ = ((I (if q.num < 0 then -(q.den : Int) else (q.den : Int))).1, (I (if q.num < 0 then -(q.den : Int) else (q.den : Int))).2, (ratOf q).2.1) := by
    unfold ratOf I
    rw [e2, e3, e4, e5]
  rw [er]
  exact Ev.bind s1 (Ev.now _)
theorem of8_tells {a : R3} (ha : LB a) (n : Int) (h0 : -9223372036854775808 ≤ n) (h1 : n ≤ 9223372036854775807) : Ev (fun k => steelyardref08_Of.f k a.1 a.2.1 a.2.2 n) (powS a n) := by
  refine Ev.bind (good7_tells ha) ?_
  unfold powS
  by_cases hg : goodB a = true
  case neg => rw [if_neg hg]; exact Ev.congr (fun k => if_neg hg) (Ev.now _)
  rw [if_pos hg]
  refine Ev.congr (fun k => if_pos hg) ?_
  obtain ⟨p, hp, rfl⟩ := good_iff.1 hg
  obtain ⟨f1, f2⟩ := fits_len hp
  rw [qOf_ratOf]
  have lim2 : Ev (fun k => steelyardref08_Of.j0 k n true (ratOf p).1 (ratOf p).2.1 (ratOf p).2.2) (bad 2) :=
    Ev.step (fun k => steelyardref08_Of.j0.eq_2 _ _ _ _ _ k) (Ev.congr (fun k => if_pos rfl) (Ev.now _))
  by_cases hu : n > 128
  · rw [if_neg (by omega)]
    exact Ev.congr (fun k => if_pos hu) lim2
  refine Ev.congr (fun k => if_neg hu) ?_
  by_cases hl : n < -128
  · rw [if_neg (by omega), decide_eq_true hl]
    exact lim2
  rw [if_pos (by omega), decide_eq_false hl]
  refine Ev.step (fun k => steelyardref08_Of.j0.eq_2 _ _ _ _ _ k) (Ev.congr (fun k => if_neg (by simp)) ?_)
  by_cases hz : n = 0
  · subst hz
    rw [if_neg (by omega), Rat.zpow_zero]
    refine Ev.congr (fun k => if_pos rfl) (Ev.bind (whole7_tells 1 (by omega) (by omega)) (Ev.congr (fun k => ?_) (Ev.now _)))
    unfold lim
    rw [if_pos fits_one]
    rfl
  refine Ev.congr (fun k => if_neg hz) ?_
  by_cases hpos : n > 0
  · rw [if_neg (by omega)]
    obtain ⟨e, rfl⟩ : ∃ e : Nat, n = (e : Int) := ⟨n.natAbs, by omega⟩
    rw [Rat.zpow_natCast]
    exact Ev.congr (fun k => if_pos hpos) (lim7 (wide8_tells hp e (by omega) (by omega)))
  · refine Ev.congr (fun k => if_neg hpos) ?_
    have hlen : (ratOf p).2.1.length = len p.num.natAbs := rfl
    have hn0 : len p.num.natAbs = 0 ↔ p.num.natAbs = 0 := len_eq_zero
    by_cases hp0 : p = 0
    · have hn : p.num = 0 := Rat.num_eq_zero.2 hp0
      rw [if_pos ⟨by omega, hp0⟩]
      exact Ev.congr (fun k => if_pos (by rw [hlen]; omega)) (Ev.now _)
    · have hn : p.num ≠ 0 := fun h => hp0 (Rat.num_eq_zero.1 h)
      rw [if_neg (fun hh => hp0 hh.2)]
      refine Ev.congr (fun k => if_neg (by rw [hlen]; omega)) ?_
      obtain ⟨e, rfl⟩ : ∃ e : Nat, n = -(e : Int) := ⟨n.natAbs, by omega⟩
      rw [w64 (x := -(-(e : Int))) (by omega) (by omega), Int.neg_neg, zpow_inv]
      have b2 := len_pow64 p.den e f2 (by omega)
      have s1 := wide8_tells hp e (by omega) (by omega)
      have s2 := turned8_tells (q := p ^ e) (pow_ne hp0 e) (by rw [Rat.den_pow]; omega)
      exact Ev.bind s1 (lim7 s2)
theorem scale8_tells {a : R3} (ha : LB a) (n : Int) (h0 : -9223372036854775808 ≤ n) (h1 : n ≤ 9223372036854775807) : Ev (fun k => steelyardref08_Scale.f k a.1 a.2.1 a.2.2 n) (scS a n) := by
  refine Ev.bind (good7_tells ha) ?_
  unfold scS
  by_cases hg : goodB a = true
  case neg => rw [if_neg hg]; exact Ev.congr (fun k => if_neg hg) (Ev.now _)
  rw [if_pos hg]
  refine Ev.congr (fun k => if_pos hg) ?_
  obtain ⟨p, hp, rfl⟩ := good_iff.1 hg
  obtain ⟨f1, f2⟩ := fits_len hp
  rw [qOf_ratOf]
  have lim2 : Ev (fun k => steelyardref08_Scale.j0 k n true (ratOf p).1 (ratOf p).2.1 (ratOf p).2.2) (bad 2) :=
    Ev.step (fun k => steelyardref08_Scale.j0.eq_2 _ _ _ _ _ k) (Ev.congr (fun k => if_pos rfl) (Ev.now _))
  by_cases hu : n > 600
  · rw [if_neg (by omega)]
    exact Ev.congr (fun k => if_pos hu) lim2
  refine Ev.congr (fun k => if_neg hu) ?_
  by_cases hl : n < -600
  · rw [if_neg (by omega), decide_eq_true hl]
    exact lim2
  rw [if_pos (by omega), decide_eq_false hl]
  refine Ev.step (fun k => steelyardref08_Scale.j0.eq_2 _ _ _ _ _ k) (Ev.congr (fun k => if_neg (by simp)) ?_)
  have hm : n.natAbs ≤ 600 := by omega
  have hlt := len_ten n.natAbs hm
  have hpos : 10 ^ n.natAbs ≠ 0 := Nat.ne_of_gt (Nat.pow_pos (by omega))
  have s1 := ten_tells n.natAbs (by omega)
  unfold ten
  by_cases hn : n ≥ 0
  · have en : ((n.natAbs : Nat) : Int) = n := by omega
    rw [en] at s1
    rw [if_neg (show ¬ n < 0 by omega)]
    generalize 10 ^ n.natAbs = t at *
    rw [← mul_mk p t]
    refine Ev.congr (fun k => if_pos hn) (Ev.bind s1 ?_)
    have s2 := make6_tells false (N_limbs t) (by rw [N_length]; omega)
    have e2 : Z false (N t) = (t : Int) := by unfold Z; rw [V_N, if_neg (by simp)]
    rw [e2] at s2
    have s3 := mul6_tells (ratOf p).1 (l1 := (ratOf p).2.1) (N_limbs _) (I (t : Int)).1 (I_limbs (t : Int)) (by show len p.num.natAbs < _; omega) (by rw [I_len, Int.natAbs_natCast]; omega)
    rw [Z_ratOf, Z_I] at s3
    have c := len_mulZ p.num (t : Int)
    rw [Int.natAbs_natCast] at c
    have s4 := of7_tells (I (p.num * (t : Int))).1 (I_limbs (p.num * (t : Int))) (b := (ratOf p).2.2) (N_limbs _) (by rw [I_len]; omega) (by show len p.den < _; omega)
    rw [Z_I, V_ratOf, if_neg p.den_nz] at s4
    exact Ev.bind s2 (Ev.bind s3 (eta4 s4))
  · have en : ((n.natAbs : Nat) : Int) = -n := by omega
    rw [en] at s1
    rw [if_pos (show n < 0 by omega), w64 (x := -n) (by omega) (by omega)]
    generalize 10 ^ n.natAbs = t at *
    rw [← Rat.div_def, ← div_mk' p t hpos]
    refine Ev.congr (fun k => if_neg hn) (Ev.bind s1 ?_)
    have s3 := mul2_tells (a := (ratOf p).2.2) (b := N t) (N_limbs _) (N_limbs _) (by show len p.den < _; omega) (by rw [N_length]; omega)
    rw [V_ratOf, V_N] at s3
    have c := len_mul p.den t
    have s4 := of7_tells (ratOf p).1 (l := (ratOf p).2.1) (b := N (p.den * t)) (N_limbs _) (N_limbs _) (by show len p.num.natAbs < _; omega) (by rw [N_length]; omega)
    rw [Z_ratOf, V_N, if_neg (Nat.mul_ne_zero p.den_nz hpos)] at s4
    exact Ev.bind s3 (eta4 s4)
end Go.Proofs.Yticngjjdjmadgaa.Num
end
section
set_option linter.unusedVariables false
set_option linter.unusedSimpArgs false
namespace Go.Proofs.Yticngjjdjmadgaa.Num
open Go.RowKit Go.Proofs.YticngjjdjmadgaaW.PrintWords Go.Proofs.YticngjjdjmadgaaW.PrintMore Go.Proofs.Yticngjjdjmadgaa.PL Go.Proofs.Yticngjjdjmadgaa.PU
open Go.Proofs.Yticngjjdjmadgaa.Den (U)

abbrev ug (a : R4) : U := .agg [.v (.bool a.1), .l a.2.1, .l a.2.2.1, .v (.int .i64 a.2.2.2)]
theorem scale_R {a : R3} (ha : LR a) (n : Int) (h0 : -9223372036854775808 ≤ n) (h1 : n ≤ 9223372036854775807) : power_Scale.R [ur a, ui n] (ut (scS a n)) := by obtain ⟨k, hk⟩ := (scale_tells ha n h0 h1).rounds; exact power_Scale.I (r1 := (scS a n).1) (r2 := (scS a n).2.1) (r3 := (scS a n).2.2.1) (r4 := (scS a n).2.2.2) hk
theorem of8_R {a : R3} (ha : LB a) (n : Int) (h0 : -9223372036854775808 ≤ n) (h1 : n ≤ 9223372036854775807) : steelyardref08_Of.R [ur a, ui n] (ug (powS a n)) := by obtain ⟨k, hk⟩ := (of8_tells ha n h0 h1).rounds; exact steelyardref08_Of.I (r1 := (powS a n).1) (r2 := (powS a n).2.1) (r3 := (powS a n).2.2.1) (r4 := (powS a n).2.2.2) hk
theorem scale8_R {a : R3} (ha : LB a) (n : Int) (h0 : -9223372036854775808 ≤ n) (h1 : n ≤ 9223372036854775807) : steelyardref08_Scale.R [ur a, ui n] (ug (scS a n)) := by obtain ⟨k, hk⟩ := (scale8_tells ha n h0 h1).rounds; exact steelyardref08_Scale.I (r1 := (scS a n).1) (r2 := (scS a n).2.1) (r3 := (scS a n).2.2.1) (r4 := (scS a n).2.2.2) hk
theorem own_R {a : R3} (ha : LR a) : steelyardkeep_OwnRat.R [ur a] (ur a) := steelyardkeep_OwnRat.I (r1 := a.1) (r2 := a.2.1) (r3 := a.2.2) (own_tells a (by have := ha.lt; omega) (by have := ha.lb; omega))
def longB (a : R3) : Bool := decide (70 < a.2.1.length) || decide (70 < a.2.2.length)
theorem long_R (a : R3) : steelyardlaw07_Long.R [ur a] (ub (longB a)) := by
  refine steelyardlaw07_Long.I ?_
  unfold steelyardlaw07_Long.f longB
  by_cases h1 : 70 < a.2.1.length
  · rw [if_pos (by omega), decide_eq_true h1, Bool.true_or]
  · rw [if_neg (by omega), decide_eq_false h1, Bool.false_or]
    by_cases h2 : 70 < a.2.2.length
    · rw [if_pos (by omega), decide_eq_true h2]
    · rw [if_neg (by omega), decide_eq_false h2]
theorem lim_bound (q : Rat) : LR ((lim q).1, (lim q).2.1, (lim q).2.2.1) := by
  unfold lim
  split
  · rename_i h; exact LR_ratOf h
  · exact ⟨Limbs.nil, Limbs.nil, by show 0 < _; omega, by show 0 < _; omega⟩
theorem bad_bound (e : Int) : LR ((bad e).1, (bad e).2.1, (bad e).2.2.1) := ⟨Limbs.nil, Limbs.nil, by show 0 < _; omega, by show 0 < _; omega⟩
theorem powS_LR (a : R3) (n : Int) : LR ((powS a n).1, (powS a n).2.1, (powS a n).2.2.1) := by
  unfold powS
  split
  · split
    · split
      · exact bad_bound _
      · exact lim_bound _
    · exact bad_bound _
  · exact bad_bound _
theorem scS_LR (a : R3) (n : Int) : LR ((scS a n).1, (scS a n).2.1, (scS a n).2.2.1) := by
  unfold scS
  split
  · split
    · exact lim_bound _
    · exact bad_bound _
  · exact bad_bound _
end Go.Proofs.Yticngjjdjmadgaa.Num
end
section
set_option linter.unusedVariables false
set_option linter.unusedSimpArgs false
namespace Go.Proofs.Yticngjjdjmadgaa.PU
open Go Go.RowKit Go.Proofs.YticngjjdjmadgaaW.PrintWords Go.Proofs.YticngjjdjmadgaaW.PrintMore Go.Proofs.Yticngjjdjmadgaa.Den Go.Proofs.Yticngjjdjmadgaa.PL
set_option maxHeartbeats 4000000 in
set_option maxRecDepth 100000 in
theorem steelyardlaw08_PowerTells.walk {D : Dat} {C : Orc} (hD : D = real) (h14 : ∀ us u, steelyardlaw07_Long.R us u → C 14 us u) (h15 : ∀ us u, steelyardlaw08_wakes.R us u → C 15 us u) (h16 : ∀ us u, steelyardkeep_OwnRat.R us u → C 16 us u) (h17 : ∀ us u, power_Of.R us u → C 17 us u) (h18 : ∀ us u, power_Scale.R us u → C 18 us u) (h19 : ∀ us u, steelyardref08_Of.R us u → C 19 us u) (h20 : ∀ us u, steelyardref08_Scale.R us u → C 20 us u) (h21 : ∀ us u, steelyardkeep_Rat.R us u → C 21 us u) {n m e1 e2 : Int} {n1 : Bool} {l1 b1 : List Int} {n2 : Bool} {l2 b2 : List Int} {n3 : Bool} {l3 b3 : List Int} (H : (steelyardlaw08_wakes.R [] (.v (.bool true)) ∧ steelyardlaw07_Long.R [.agg [.v (.bool n1), .l l1, .l b1]] (.v (.bool true))) ∨ (steelyardlaw08_wakes.R [] (.v (.bool true)) ∧ steelyardlaw07_Long.R [.agg [.v (.bool n1), .l l1, .l b1]] (.v (.bool false)) ∧ 8 < (l1.length : Int) ∧ 3 < n ∧ n ≤ 128 ∧ -128 ≤ n) ∨ (steelyardlaw08_wakes.R [] (.v (.bool true)) ∧ steelyardlaw07_Long.R [.agg [.v (.bool n1), .l l1, .l b1]] (.v (.bool false)) ∧ 8 < (l1.length : Int) ∧ ¬ 3 < n ∧ n < -3 ∧ n ≤ 128 ∧ -128 ≤ n) ∨ (steelyardlaw08_wakes.R [] (.v (.bool true)) ∧ steelyardlaw07_Long.R [.agg [.v (.bool n1), .l l1, .l b1]] (.v (.bool false)) ∧ ¬ 8 < (l1.length : Int) ∧ 8 < (b1.length : Int) ∧ 3 < n ∧ n ≤ 128 ∧ -128 ≤ n) ∨ (steelyardlaw08_wakes.R [] (.v (.bool true)) ∧ steelyardlaw07_Long.R [.agg [.v (.bool n1), .l l1, .l b1]] (.v (.bool false)) ∧ ¬ 8 < (l1.length : Int) ∧ 8 < (b1.length : Int) ∧ ¬ 3 < n ∧ n < -3 ∧ n ≤ 128 ∧ -128 ≤ n) ∨ (steelyardlaw08_wakes.R [] (.v (.bool true)) ∧ steelyardlaw07_Long.R [.agg [.v (.bool n1), .l l1, .l b1]] (.v (.bool false)) ∧ ¬ 8 < (l1.length : Int) ∧ ¬ 8 < (b1.length : Int) ∧ steelyardkeep_OwnRat.R [.agg [.v (.bool n1), .l l1, .l b1]] (.agg [.v (.bool n1), .l l1, .l b1]) ∧ power_Of.R [.agg [.v (.bool n1), .l l1, .l b1], .v (.int .i64 n)] (.tup [.agg [.v (.bool n2), .l l2, .l b2], .v (.int .i64 e1)]) ∧ steelyardref08_Of.R [.agg [.v (.bool n1), .l l1, .l b1], .v (.int .i64 n)] (.agg [.v (.bool n2), .l l2, .l b2, .v (.int .i64 e1)]) ∧ steelyardkeep_Rat.R [.agg [.v (.bool n2), .l l2, .l b2], .agg [.v (.bool n2), .l l2, .l b2]] (.v (.bool true)) ∧ power_Scale.R [.agg [.v (.bool n1), .l l1, .l b1], .v (.int .i64 m)] (.tup [.agg [.v (.bool n3), .l l3, .l b3], .v (.int .i64 e2)]) ∧ steelyardref08_Scale.R [.agg [.v (.bool n1), .l l1, .l b1], .v (.int .i64 m)] (.agg [.v (.bool n3), .l l3, .l b3, .v (.int .i64 e2)]) ∧ steelyardkeep_Rat.R [.agg [.v (.bool n3), .l l3, .l b3], .agg [.v (.bool n3), .l l3, .l b3]] (.v (.bool true)) ∧ steelyardkeep_Rat.R [.agg [.v (.bool n1), .l l1, .l b1], .agg [.v (.bool n1), .l l1, .l b1]] (.v (.bool true))) ∨ (steelyardlaw08_wakes.R [] (.v (.bool true)) ∧ steelyardlaw07_Long.R [.agg [.v (.bool n1), .l l1, .l b1]] (.v (.bool false)) ∧ 8 < (l1.length : Int) ∧ ¬ 3 < n ∧ ¬ n < -3 ∧ steelyardkeep_OwnRat.R [.agg [.v (.bool n1), .l l1, .l b1]] (.agg [.v (.bool n1), .l l1, .l b1]) ∧ power_Of.R [.agg [.v (.bool n1), .l l1, .l b1], .v (.int .i64 n)] (.tup [.agg [.v (.bool n2), .l l2, .l b2], .v (.int .i64 e1)]) ∧ steelyardref08_Of.R [.agg [.v (.bool n1), .l l1, .l b1], .v (.int .i64 n)] (.agg [.v (.bool n2), .l l2, .l b2, .v (.int .i64 e1)]) ∧ steelyardkeep_Rat.R [.agg [.v (.bool n2), .l l2, .l b2], .agg [.v (.bool n2), .l l2, .l b2]] (.v (.bool true)) ∧ power_Scale.R [.agg [.v (.bool n1), .l l1, .l b1], .v (.int .i64 m)] (.tup [.agg [.v (.bool n3), .l l3, .l b3], .v (.int .i64 e2)]) ∧ steelyardref08_Scale.R [.agg [.v (.bool n1), .l l1, .l b1], .v (.int .i64 m)] (.agg [.v (.bool n3), .l l3, .l b3, .v (.int .i64 e2)]) ∧ steelyardkeep_Rat.R [.agg [.v (.bool n3), .l l3, .l b3], .agg [.v (.bool n3), .l l3, .l b3]] (.v (.bool true)) ∧ steelyardkeep_Rat.R [.agg [.v (.bool n1), .l l1, .l b1], .agg [.v (.bool n1), .l l1, .l b1]] (.v (.bool true))) ∨ (steelyardlaw08_wakes.R [] (.v (.bool true)) ∧ steelyardlaw07_Long.R [.agg [.v (.bool n1), .l l1, .l b1]] (.v (.bool false)) ∧ 8 < (l1.length : Int) ∧ 3 < n ∧ ¬ n ≤ 128 ∧ steelyardkeep_OwnRat.R [.agg [.v (.bool n1), .l l1, .l b1]] (.agg [.v (.bool n1), .l l1, .l b1]) ∧ power_Of.R [.agg [.v (.bool n1), .l l1, .l b1], .v (.int .i64 n)] (.tup [.agg [.v (.bool n2), .l l2, .l b2], .v (.int .i64 e1)]) ∧ steelyardref08_Of.R [.agg [.v (.bool n1), .l l1, .l b1], .v (.int .i64 n)] (.agg [.v (.bool n2), .l l2, .l b2, .v (.int .i64 e1)]) ∧ steelyardkeep_Rat.R [.agg [.v (.bool n2), .l l2, .l b2], .agg [.v (.bool n2), .l l2, .l b2]] (.v (.bool true)) ∧ power_Scale.R [.agg [.v (.bool n1), .l l1, .l b1], .v (.int .i64 m)] (.tup [.agg [.v (.bool n3), .l l3, .l b3], .v (.int .i64 e2)]) ∧ steelyardref08_Scale.R [.agg [.v (.bool n1), .l l1, .l b1], .v (.int .i64 m)] (.agg [.v (.bool n3), .l l3, .l b3, .v (.int .i64 e2)]) ∧ steelyardkeep_Rat.R [.agg [.v (.bool n3), .l l3, .l b3], .agg [.v (.bool n3), .l l3, .l b3]] (.v (.bool true)) ∧ steelyardkeep_Rat.R [.agg [.v (.bool n1), .l l1, .l b1], .agg [.v (.bool n1), .l l1, .l b1]] (.v (.bool true))) ∨ (steelyardlaw08_wakes.R [] (.v (.bool true)) ∧ steelyardlaw07_Long.R [.agg [.v (.bool n1), .l l1, .l b1]] (.v (.bool false)) ∧ 8 < (l1.length : Int) ∧ ¬ 3 < n ∧ n < -3 ∧ n ≤ 128 ∧ ¬ -128 ≤ n ∧ steelyardkeep_OwnRat.R [.agg [.v (.bool n1), .l l1, .l b1]] (.agg [.v (.bool n1), .l l1, .l b1]) ∧ power_Of.R [.agg [.v (.bool n1), .l l1, .l b1], .v (.int .i64 n)] (.tup [.agg [.v (.bool n2), .l l2, .l b2], .v (.int .i64 e1)]) ∧ steelyardref08_Of.R [.agg [.v (.bool n1), .l l1, .l b1], .v (.int .i64 n)] (.agg [.v (.bool n2), .l l2, .l b2, .v (.int .i64 e1)]) ∧ steelyardkeep_Rat.R [.agg [.v (.bool n2), .l l2, .l b2], .agg [.v (.bool n2), .l l2, .l b2]] (.v (.bool true)) ∧ power_Scale.R [.agg [.v (.bool n1), .l l1, .l b1], .v (.int .i64 m)] (.tup [.agg [.v (.bool n3), .l l3, .l b3], .v (.int .i64 e2)]) ∧ steelyardref08_Scale.R [.agg [.v (.bool n1), .l l1, .l b1], .v (.int .i64 m)] (.agg [.v (.bool n3), .l l3, .l b3, .v (.int .i64 e2)]) ∧ steelyardkeep_Rat.R [.agg [.v (.bool n3), .l l3, .l b3], .agg [.v (.bool n3), .l l3, .l b3]] (.v (.bool true)) ∧ steelyardkeep_Rat.R [.agg [.v (.bool n1), .l l1, .l b1], .agg [.v (.bool n1), .l l1, .l b1]] (.v (.bool true))) ∨ (steelyardlaw08_wakes.R [] (.v (.bool true)) ∧ steelyardlaw07_Long.R [.agg [.v (.bool n1), .l l1, .l b1]] (.v (.bool false)) ∧ ¬ 8 < (l1.length : Int) ∧ 8 < (b1.length : Int) ∧ ¬ 3 < n ∧ ¬ n < -3 ∧ steelyardkeep_OwnRat.R [.agg [.v (.bool n1), .l l1, .l b1]] (.agg [.v (.bool n1), .l l1, .l b1]) ∧ power_Of.R [.agg [.v (.bool n1), .l l1, .l b1], .v (.int .i64 n)] (.tup [.agg [.v (.bool n2), .l l2, .l b2], .v (.int .i64 e1)]) ∧ steelyardref08_Of.R [.agg [.v (.bool n1), .l l1, .l b1], .v (.int .i64 n)] (.agg [.v (.bool n2), .l l2, .l b2, .v (.int .i64 e1)]) ∧ steelyardkeep_Rat.R [.agg [.v (.bool n2), .l l2, .l b2], .agg [.v (.bool n2), .l l2, .l b2]] (.v (.bool true)) ∧ power_Scale.R [.agg [.v (.bool n1), .l l1, .l b1], .v (.int .i64 m)] (.tup [.agg [.v (.bool n3), .l l3, .l b3], .v (.int .i64 e2)]) ∧ steelyardref08_Scale.R [.agg [.v (.bool n1), .l l1, .l b1], .v (.int .i64 m)] (.agg [.v (.bool n3), .l l3, .l b3, .v (.int .i64 e2)]) ∧ steelyardkeep_Rat.R [.agg [.v (.bool n3), .l l3, .l b3], .agg [.v (.bool n3), .l l3, .l b3]] (.v (.bool true)) ∧ steelyardkeep_Rat.R [.agg [.v (.bool n1), .l l1, .l b1], .agg [.v (.bool n1), .l l1, .l b1]] (.v (.bool true))) ∨ (steelyardlaw08_wakes.R [] (.v (.bool true)) ∧ steelyardlaw07_Long.R [.agg [.v (.bool n1), .l l1, .l b1]] (.v (.bool false)) ∧ ¬ 8 < (l1.length : Int) ∧ 8 < (b1.length : Int) ∧ 3 < n ∧ ¬ n ≤ 128 ∧ steelyardkeep_OwnRat.R [.agg [.v (.bool n1), .l l1, .l b1]] (.agg [.v (.bool n1), .l l1, .l b1]) ∧ power_Of.R [.agg [.v (.bool n1), .l l1, .l b1], .v (.int .i64 n)] (.tup [.agg [.v (.bool n2), .l l2, .l b2], .v (.int .i64 e1)]) ∧ steelyardref08_Of.R [.agg [.v (.bool n1), .l l1, .l b1], .v (.int .i64 n)] (.agg [.v (.bool n2), .l l2, .l b2, .v (.int .i64 e1)]) ∧ steelyardkeep_Rat.R [.agg [.v (.bool n2), .l l2, .l b2], .agg [.v (.bool n2), .l l2, .l b2]] (.v (.bool true)) ∧ power_Scale.R [.agg [.v (.bool n1), .l l1, .l b1], .v (.int .i64 m)] (.tup [.agg [.v (.bool n3), .l l3, .l b3], .v (.int .i64 e2)]) ∧ steelyardref08_Scale.R [.agg [.v (.bool n1), .l l1, .l b1], .v (.int .i64 m)] (.agg [.v (.bool n3), .l l3, .l b3, .v (.int .i64 e2)]) ∧ steelyardkeep_Rat.R [.agg [.v (.bool n3), .l l3, .l b3], .agg [.v (.bool n3), .l l3, .l b3]] (.v (.bool true)) ∧ steelyardkeep_Rat.R [.agg [.v (.bool n1), .l l1, .l b1], .agg [.v (.bool n1), .l l1, .l b1]] (.v (.bool true))) ∨ (steelyardlaw08_wakes.R [] (.v (.bool true)) ∧ steelyardlaw07_Long.R [.agg [.v (.bool n1), .l l1, .l b1]] (.v (.bool false)) ∧ ¬ 8 < (l1.length : Int) ∧ 8 < (b1.length : Int) ∧ ¬ 3 < n ∧ n < -3 ∧ n ≤ 128 ∧ ¬ -128 ≤ n ∧ steelyardkeep_OwnRat.R [.agg [.v (.bool n1), .l l1, .l b1]] (.agg [.v (.bool n1), .l l1, .l b1]) ∧ power_Of.R [.agg [.v (.bool n1), .l l1, .l b1], .v (.int .i64 n)] (.tup [.agg [.v (.bool n2), .l l2, .l b2], .v (.int .i64 e1)]) ∧ steelyardref08_Of.R [.agg [.v (.bool n1), .l l1, .l b1], .v (.int .i64 n)] (.agg [.v (.bool n2), .l l2, .l b2, .v (.int .i64 e1)]) ∧ steelyardkeep_Rat.R [.agg [.v (.bool n2), .l l2, .l b2], .agg [.v (.bool n2), .l l2, .l b2]] (.v (.bool true)) ∧ power_Scale.R [.agg [.v (.bool n1), .l l1, .l b1], .v (.int .i64 m)] (.tup [.agg [.v (.bool n3), .l l3, .l b3], .v (.int .i64 e2)]) ∧ steelyardref08_Scale.R [.agg [.v (.bool n1), .l l1, .l b1], .v (.int .i64 m)] (.agg [.v (.bool n3), .l l3, .l b3, .v (.int .i64 e2)]) ∧ steelyardkeep_Rat.R [.agg [.v (.bool n3), .l l3, .l b3], .agg [.v (.bool n3), .l l3, .l b3]] (.v (.bool true)) ∧ steelyardkeep_Rat.R [.agg [.v (.bool n1), .l l1, .l b1], .agg [.v (.bool n1), .l l1, .l b1]] (.v (.bool true)))) : body tys D C Try.f3 [.agg [.v (.bool n1), .l l1, .l b1], .v (.int .i64 n), .v (.int .i64 m)] (.v (.bool true)) := by
  obtain ⟨len, add, sub, mul, rem, neg, conv, max, eq, ne, lt, le, nth, zeros, copy, cpd, bor⟩ := D
  simp only [real, Dat.mk.injEq] at hD
  obtain ⟨elen, eadd, esub, emul, erem, eneg, econv, emax, eeq, ene, elt, ele, enth, ezeros, ecopy, ecpd, ebor⟩ := hD
  (rcases H with ⟨q0, q1⟩ | ⟨q0, q1, q2, q3, q4, q5⟩ | ⟨q0, q1, q2, q3, q4, q5, q6⟩ | ⟨q0, q1, q2, q3, q4, q5, q6⟩ | ⟨q0, q1, q2, q3, q4, q5, q6, q7⟩ | ⟨q0, q1, q2, q3, q4, q5, q6, q7, q8, q9, q10, q11⟩ | ⟨q0, q1, q2, q3, q4, q5, q6, q7, q8, q9, q10, q11, q12⟩ | ⟨q0, q1, q2, q3, q4, q5, q6, q7, q8, q9, q10, q11, q12⟩ | ⟨q0, q1, q2, q3, q4, q5, q6, q7, q8, q9, q10, q11, q12, q13, q14⟩ | ⟨q0, q1, q2, q3, q4, q5, q6, q7, q8, q9, q10, q11, q12, q13⟩ | ⟨q0, q1, q2, q3, q4, q5, q6, q7, q8, q9, q10, q11, q12, q13⟩ | ⟨q0, q1, q2, q3, q4, q5, q6, q7, q8, q9, q10, q11, q12, q13, q14, q15⟩) <;>
  (cbv) <;>
  (repeat first
    | ((with_reducible refine Exists.intro _ (And.intro (h14 _ _ (by assumption)) ?_)); cbv)
    | ((with_reducible refine Exists.intro _ (And.intro (h15 _ _ (by assumption)) ?_)); cbv)
    | ((with_reducible refine Exists.intro _ (And.intro (h16 _ _ (by assumption)) ?_)); cbv)
    | ((with_reducible refine Exists.intro _ (And.intro (h17 _ _ (by assumption)) ?_)); cbv)
    | ((with_reducible refine Exists.intro _ (And.intro (h18 _ _ (by assumption)) ?_)); cbv)
    | ((with_reducible refine Exists.intro _ (And.intro (h19 _ _ (by assumption)) ?_)); cbv)
    | ((with_reducible refine Exists.intro _ (And.intro (h20 _ _ (by assumption)) ?_)); cbv)
    | ((with_reducible refine Exists.intro _ (And.intro (h21 _ _ (by assumption)) ?_)); cbv)
    | ((with_reducible apply Exists.intro); (with_reducible apply And.intro); (· with_reducible apply h14; simp only [elen, eadd, esub, emul, erem, eneg, econv, ebor, emax, eeq, ene, elt, ele, w64, mxE]; assumption); cbv)
    | ((with_reducible apply Exists.intro); (with_reducible apply And.intro); (· with_reducible apply h15; simp only [elen, eadd, esub, emul, erem, eneg, econv, ebor, emax, eeq, ene, elt, ele, w64, mxE]; assumption); cbv)
    | ((with_reducible apply Exists.intro); (with_reducible apply And.intro); (· with_reducible apply h16; simp only [elen, eadd, esub, emul, erem, eneg, econv, ebor, emax, eeq, ene, elt, ele, w64, mxE]; assumption); cbv)
    | ((with_reducible apply Exists.intro); (with_reducible apply And.intro); (· with_reducible apply h17; simp only [elen, eadd, esub, emul, erem, eneg, econv, ebor, emax, eeq, ene, elt, ele, w64, mxE]; assumption); cbv)
    | ((with_reducible apply Exists.intro); (with_reducible apply And.intro); (· with_reducible apply h18; simp only [elen, eadd, esub, emul, erem, eneg, econv, ebor, emax, eeq, ene, elt, ele, w64, mxE]; assumption); cbv)
    | ((with_reducible apply Exists.intro); (with_reducible apply And.intro); (· with_reducible apply h19; simp only [elen, eadd, esub, emul, erem, eneg, econv, ebor, emax, eeq, ene, elt, ele, w64, mxE]; assumption); cbv)
    | ((with_reducible apply Exists.intro); (with_reducible apply And.intro); (· with_reducible apply h20; simp only [elen, eadd, esub, emul, erem, eneg, econv, ebor, emax, eeq, ene, elt, ele, w64, mxE]; assumption); cbv)
    | ((with_reducible apply Exists.intro); (with_reducible apply And.intro); (· with_reducible apply h21; simp only [elen, eadd, esub, emul, erem, eneg, econv, ebor, emax, eeq, ene, elt, ele, w64, mxE]; assumption); cbv)
    | ((with_reducible refine t1 ?_ ?_); (· first | (simp only [elen, eadd, esub, emul, erem, eneg, econv, ebor, emax, eeq, ene, elt, ele, w64, mxE, decide_eq_true_eq, decide_eq_false_iff_not, not_true_eq_false, not_false_eq_true]; done) | (simp only [elen, eadd, esub, emul, erem, eneg, econv, ebor, emax, eeq, ene, elt, ele, w64, mxE, decide_eq_true_eq, decide_eq_false_iff_not]; first | assumption | omega | decide)); intro hb_; (try simp only [hb_]); cbv)
    | ((with_reducible refine t2 ?_ ?_); (· first | (simp only [elen, eadd, esub, emul, erem, eneg, econv, ebor, emax, eeq, ene, elt, ele, w64, mxE, decide_eq_true_eq, decide_eq_false_iff_not, not_true_eq_false, not_false_eq_true]; done) | (simp only [elen, eadd, esub, emul, erem, eneg, econv, ebor, emax, eeq, ene, elt, ele, w64, mxE, decide_eq_true_eq, decide_eq_false_iff_not]; first | assumption | omega | decide)); intro hb_; (try simp only [hb_]); cbv)
    | ((with_reducible refine t3 ?_ ?_); (· first | (simp only [elen, eadd, esub, emul, erem, eneg, econv, ebor, emax, eeq, ene, elt, ele, w64, mxE, decide_eq_true_eq, decide_eq_false_iff_not, not_true_eq_false, not_false_eq_true]; done) | (simp only [elen, eadd, esub, emul, erem, eneg, econv, ebor, emax, eeq, ene, elt, ele, w64, mxE, decide_eq_true_eq, decide_eq_false_iff_not]; first | assumption | omega | decide)); intro hb_; (try simp only [hb_]); cbv)
    | ((with_reducible refine t4 ?_ ?_); (· first | (simp only [elen, eadd, esub, emul, erem, eneg, econv, ebor, emax, eeq, ene, elt, ele, w64, mxE, decide_eq_true_eq, decide_eq_false_iff_not, not_true_eq_false, not_false_eq_true]; done) | (simp only [elen, eadd, esub, emul, erem, eneg, econv, ebor, emax, eeq, ene, elt, ele, w64, mxE, decide_eq_true_eq, decide_eq_false_iff_not]; first | assumption | omega | decide)); intro hb_; (try simp only [hb_]); cbv))
end Go.Proofs.Yticngjjdjmadgaa.PU
end
section
set_option linter.unusedVariables false
set_option linter.unusedSimpArgs false
namespace Go.Proofs.Yticngjjdjmadgaa.Num
open Go.RowKit Go.Proofs.YticngjjdjmadgaaW.PrintWords Go.Proofs.YticngjjdjmadgaaW.PrintMore Go.Proofs.Yticngjjdjmadgaa.PL Go.Proofs.Yticngjjdjmadgaa.PU
open Go.Proofs.Yticngjjdjmadgaa.Den (U SoundF orc_cons orc_nil)

def PowerTellsT (us : List U) (u : U) : Prop := ∃ (a : R3) (n m : Int), LB a ∧ -9223372036854775808 ≤ n ∧ n ≤ 9223372036854775807 ∧ -9223372036854775808 ≤ m ∧ m ≤ 9223372036854775807 ∧ us = [ur a, ui n, ui m] ∧ u = ub true
theorem ptells_sound : SoundF Try.prog 3 PowerTellsT :=
  Den.sound (l := [(14, steelyardlaw07_Long.R), (15, steelyardlaw08_wakes.R), (16, steelyardkeep_OwnRat.R), (17, power_Of.R), (18, power_Scale.R), (19, steelyardref08_Of.R), (20, steelyardref08_Scale.R), (21, steelyardkeep_Rat.R)])
    (orc_cons steelyardlaw07_Long.sound (orc_cons steelyardlaw08_wakes.sound (orc_cons steelyardkeep_OwnRat.sound (orc_cons power_Of.sound (orc_cons power_Scale.sound (orc_cons steelyardref08_Of.sound (orc_cons steelyardref08_Scale.sound (orc_cons steelyardkeep_Rat.sound orc_nil))))))))
    Try.func3 (by kernel_rfl) (by kernel_rfl) (by decide +kernel) fun us u hR => by
  obtain ⟨a, n, m, ha, n0, n1, m0, m1, rfl, rfl⟩ := hR
  have w1 := long_R a
  by_cases g1 : longB a = true
  · rw [g1] at w1
    exact steelyardlaw08_PowerTells.walk rfl (fun _ _ h => .inl ⟨rfl, h⟩) (fun _ _ h => .inr (.inl ⟨rfl, h⟩)) (fun _ _ h => .inr (.inr (.inl ⟨rfl, h⟩))) (fun _ _ h => .inr (.inr (.inr (.inl ⟨rfl, h⟩)))) (fun _ _ h => .inr (.inr (.inr (.inr (.inl ⟨rfl, h⟩))))) (fun _ _ h => .inr (.inr (.inr (.inr (.inr (.inl ⟨rfl, h⟩)))))) (fun _ _ h => .inr (.inr (.inr (.inr (.inr (.inr (.inl ⟨rfl, h⟩))))))) (fun _ _ h => .inr (.inr (.inr (.inr (.inr (.inr (.inr (.inl ⟨rfl, h⟩)))))))) (e1 := 0) (e2 := 0) (n2 := true) (l2 := []) (b2 := []) (n3 := true) (l3 := []) (b3 := []) (.inl ⟨wakes8_R, w1⟩)
  rw [Bool.eq_false_iff.2 g1] at w1
  have hA : LR a := by
    unfold longB at g1
    simp only [Bool.or_eq_true, decide_eq_true_eq, not_or] at g1
    exact ⟨ha.t, ha.b, by omega, by omega⟩
  have o := own_R hA
  have s1 := power_R hA n n0 n1
  have s2 := of8_R ha n n0 n1
  have s3 := keep_S (powS_LR a n)
  have s4 := scale_R hA m m0 m1
  have s5 := scale8_R ha m m0 m1
  have s6 := keep_S (scS_LR a m)
  have s7 := keep_S hA
  clear hA g1
  by_cases hA1 : 8 < (a.2.1.length : Int)
  · by_cases c1 : 3 < n
    · by_cases c2 : n ≤ 128
      · exact steelyardlaw08_PowerTells.walk rfl (fun _ _ h => .inl ⟨rfl, h⟩) (fun _ _ h => .inr (.inl ⟨rfl, h⟩)) (fun _ _ h => .inr (.inr (.inl ⟨rfl, h⟩))) (fun _ _ h => .inr (.inr (.inr (.inl ⟨rfl, h⟩)))) (fun _ _ h => .inr (.inr (.inr (.inr (.inl ⟨rfl, h⟩))))) (fun _ _ h => .inr (.inr (.inr (.inr (.inr (.inl ⟨rfl, h⟩)))))) (fun _ _ h => .inr (.inr (.inr (.inr (.inr (.inr (.inl ⟨rfl, h⟩))))))) (fun _ _ h => .inr (.inr (.inr (.inr (.inr (.inr (.inr (.inl ⟨rfl, h⟩)))))))) (e1 := 0) (e2 := 0) (n2 := true) (l2 := []) (b2 := []) (n3 := true) (l3 := []) (b3 := []) (.inr (.inl ⟨wakes8_R, w1, hA1, c1, c2, Int.le_trans (by decide) (Int.le_of_lt c1)⟩))
      · exact steelyardlaw08_PowerTells.walk rfl (fun _ _ h => .inl ⟨rfl, h⟩) (fun _ _ h => .inr (.inl ⟨rfl, h⟩)) (fun _ _ h => .inr (.inr (.inl ⟨rfl, h⟩))) (fun _ _ h => .inr (.inr (.inr (.inl ⟨rfl, h⟩)))) (fun _ _ h => .inr (.inr (.inr (.inr (.inl ⟨rfl, h⟩))))) (fun _ _ h => .inr (.inr (.inr (.inr (.inr (.inl ⟨rfl, h⟩)))))) (fun _ _ h => .inr (.inr (.inr (.inr (.inr (.inr (.inl ⟨rfl, h⟩))))))) (fun _ _ h => .inr (.inr (.inr (.inr (.inr (.inr (.inr (.inl ⟨rfl, h⟩)))))))) (.inr (.inr (.inr (.inr (.inr (.inr (.inr (.inl ⟨wakes8_R, w1, hA1, c1, c2, o, s1, s2, s3, s4, s5, s6, s7⟩))))))))
    · by_cases c3 : n < -3
      · have c2 : n ≤ 128 := Int.le_trans (Int.le_of_lt c3) (by decide)
        by_cases c4 : -128 ≤ n
        · exact steelyardlaw08_PowerTells.walk rfl (fun _ _ h => .inl ⟨rfl, h⟩) (fun _ _ h => .inr (.inl ⟨rfl, h⟩)) (fun _ _ h => .inr (.inr (.inl ⟨rfl, h⟩))) (fun _ _ h => .inr (.inr (.inr (.inl ⟨rfl, h⟩)))) (fun _ _ h => .inr (.inr (.inr (.inr (.inl ⟨rfl, h⟩))))) (fun _ _ h => .inr (.inr (.inr (.inr (.inr (.inl ⟨rfl, h⟩)))))) (fun _ _ h => .inr (.inr (.inr (.inr (.inr (.inr (.inl ⟨rfl, h⟩))))))) (fun _ _ h => .inr (.inr (.inr (.inr (.inr (.inr (.inr (.inl ⟨rfl, h⟩)))))))) (e1 := 0) (e2 := 0) (n2 := true) (l2 := []) (b2 := []) (n3 := true) (l3 := []) (b3 := []) (.inr (.inr (.inl ⟨wakes8_R, w1, hA1, c1, c3, c2, c4⟩)))
        · exact steelyardlaw08_PowerTells.walk rfl (fun _ _ h => .inl ⟨rfl, h⟩) (fun _ _ h => .inr (.inl ⟨rfl, h⟩)) (fun _ _ h => .inr (.inr (.inl ⟨rfl, h⟩))) (fun _ _ h => .inr (.inr (.inr (.inl ⟨rfl, h⟩)))) (fun _ _ h => .inr (.inr (.inr (.inr (.inl ⟨rfl, h⟩))))) (fun _ _ h => .inr (.inr (.inr (.inr (.inr (.inl ⟨rfl, h⟩)))))) (fun _ _ h => .inr (.inr (.inr (.inr (.inr (.inr (.inl ⟨rfl, h⟩))))))) (fun _ _ h => .inr (.inr (.inr (.inr (.inr (.inr (.inr (.inl ⟨rfl, h⟩)))))))) (.inr (.inr (.inr (.inr (.inr (.inr (.inr (.inr (.inl ⟨wakes8_R, w1, hA1, c1, c3, c2, c4, o, s1, s2, s3, s4, s5, s6, s7⟩)))))))))
      · exact steelyardlaw08_PowerTells.walk rfl (fun _ _ h => .inl ⟨rfl, h⟩) (fun _ _ h => .inr (.inl ⟨rfl, h⟩)) (fun _ _ h => .inr (.inr (.inl ⟨rfl, h⟩))) (fun _ _ h => .inr (.inr (.inr (.inl ⟨rfl, h⟩)))) (fun _ _ h => .inr (.inr (.inr (.inr (.inl ⟨rfl, h⟩))))) (fun _ _ h => .inr (.inr (.inr (.inr (.inr (.inl ⟨rfl, h⟩)))))) (fun _ _ h => .inr (.inr (.inr (.inr (.inr (.inr (.inl ⟨rfl, h⟩))))))) (fun _ _ h => .inr (.inr (.inr (.inr (.inr (.inr (.inr (.inl ⟨rfl, h⟩)))))))) (.inr (.inr (.inr (.inr (.inr (.inr (.inl ⟨wakes8_R, w1, hA1, c1, c3, o, s1, s2, s3, s4, s5, s6, s7⟩)))))))
  by_cases hB1 : 8 < (a.2.2.length : Int)
  · by_cases c1 : 3 < n
    · by_cases c2 : n ≤ 128
      · exact steelyardlaw08_PowerTells.walk rfl (fun _ _ h => .inl ⟨rfl, h⟩) (fun _ _ h => .inr (.inl ⟨rfl, h⟩)) (fun _ _ h => .inr (.inr (.inl ⟨rfl, h⟩))) (fun _ _ h => .inr (.inr (.inr (.inl ⟨rfl, h⟩)))) (fun _ _ h => .inr (.inr (.inr (.inr (.inl ⟨rfl, h⟩))))) (fun _ _ h => .inr (.inr (.inr (.inr (.inr (.inl ⟨rfl, h⟩)))))) (fun _ _ h => .inr (.inr (.inr (.inr (.inr (.inr (.inl ⟨rfl, h⟩))))))) (fun _ _ h => .inr (.inr (.inr (.inr (.inr (.inr (.inr (.inl ⟨rfl, h⟩)))))))) (e1 := 0) (e2 := 0) (n2 := true) (l2 := []) (b2 := []) (n3 := true) (l3 := []) (b3 := []) (.inr (.inr (.inr (.inl ⟨wakes8_R, w1, hA1, hB1, c1, c2, Int.le_trans (by decide) (Int.le_of_lt c1)⟩))))
      · exact steelyardlaw08_PowerTells.walk rfl (fun _ _ h => .inl ⟨rfl, h⟩) (fun _ _ h => .inr (.inl ⟨rfl, h⟩)) (fun _ _ h => .inr (.inr (.inl ⟨rfl, h⟩))) (fun _ _ h => .inr (.inr (.inr (.inl ⟨rfl, h⟩)))) (fun _ _ h => .inr (.inr (.inr (.inr (.inl ⟨rfl, h⟩))))) (fun _ _ h => .inr (.inr (.inr (.inr (.inr (.inl ⟨rfl, h⟩)))))) (fun _ _ h => .inr (.inr (.inr (.inr (.inr (.inr (.inl ⟨rfl, h⟩))))))) (fun _ _ h => .inr (.inr (.inr (.inr (.inr (.inr (.inr (.inl ⟨rfl, h⟩)))))))) (.inr (.inr (.inr (.inr (.inr (.inr (.inr (.inr (.inr (.inr (.inl ⟨wakes8_R, w1, hA1, hB1, c1, c2, o, s1, s2, s3, s4, s5, s6, s7⟩)))))))))))
    · by_cases c3 : n < -3
      · have c2 : n ≤ 128 := Int.le_trans (Int.le_of_lt c3) (by decide)
        by_cases c4 : -128 ≤ n
        · exact steelyardlaw08_PowerTells.walk rfl (fun _ _ h => .inl ⟨rfl, h⟩) (fun _ _ h => .inr (.inl ⟨rfl, h⟩)) (fun _ _ h => .inr (.inr (.inl ⟨rfl, h⟩))) (fun _ _ h => .inr (.inr (.inr (.inl ⟨rfl, h⟩)))) (fun _ _ h => .inr (.inr (.inr (.inr (.inl ⟨rfl, h⟩))))) (fun _ _ h => .inr (.inr (.inr (.inr (.inr (.inl ⟨rfl, h⟩)))))) (fun _ _ h => .inr (.inr (.inr (.inr (.inr (.inr (.inl ⟨rfl, h⟩))))))) (fun _ _ h => .inr (.inr (.inr (.inr (.inr (.inr (.inr (.inl ⟨rfl, h⟩)))))))) (e1 := 0) (e2 := 0) (n2 := true) (l2 := []) (b2 := []) (n3 := true) (l3 := []) (b3 := []) (.inr (.inr (.inr (.inr (.inl ⟨wakes8_R, w1, hA1, hB1, c1, c3, c2, c4⟩)))))
        · exact steelyardlaw08_PowerTells.walk rfl (fun _ _ h => .inl ⟨rfl, h⟩) (fun _ _ h => .inr (.inl ⟨rfl, h⟩)) (fun _ _ h => .inr (.inr (.inl ⟨rfl, h⟩))) (fun _ _ h => .inr (.inr (.inr (.inl ⟨rfl, h⟩)))) (fun _ _ h => .inr (.inr (.inr (.inr (.inl ⟨rfl, h⟩))))) (fun _ _ h => .inr (.inr (.inr (.inr (.inr (.inl ⟨rfl, h⟩)))))) (fun _ _ h => .inr (.inr (.inr (.inr (.inr (.inr (.inl ⟨rfl, h⟩))))))) (fun _ _ h => .inr (.inr (.inr (.inr (.inr (.inr (.inr (.inl ⟨rfl, h⟩)))))))) (.inr (.inr (.inr (.inr (.inr (.inr (.inr (.inr (.inr (.inr (.inr ⟨wakes8_R, w1, hA1, hB1, c1, c3, c2, c4, o, s1, s2, s3, s4, s5, s6, s7⟩)))))))))))
      · exact steelyardlaw08_PowerTells.walk rfl (fun _ _ h => .inl ⟨rfl, h⟩) (fun _ _ h => .inr (.inl ⟨rfl, h⟩)) (fun _ _ h => .inr (.inr (.inl ⟨rfl, h⟩))) (fun _ _ h => .inr (.inr (.inr (.inl ⟨rfl, h⟩)))) (fun _ _ h => .inr (.inr (.inr (.inr (.inl ⟨rfl, h⟩))))) (fun _ _ h => .inr (.inr (.inr (.inr (.inr (.inl ⟨rfl, h⟩)))))) (fun _ _ h => .inr (.inr (.inr (.inr (.inr (.inr (.inl ⟨rfl, h⟩))))))) (fun _ _ h => .inr (.inr (.inr (.inr (.inr (.inr (.inr (.inl ⟨rfl, h⟩)))))))) (.inr (.inr (.inr (.inr (.inr (.inr (.inr (.inr (.inr (.inl ⟨wakes8_R, w1, hA1, hB1, c1, c3, o, s1, s2, s3, s4, s5, s6, s7⟩))))))))))
  · exact steelyardlaw08_PowerTells.walk rfl (fun _ _ h => .inl ⟨rfl, h⟩) (fun _ _ h => .inr (.inl ⟨rfl, h⟩)) (fun _ _ h => .inr (.inr (.inl ⟨rfl, h⟩))) (fun _ _ h => .inr (.inr (.inr (.inl ⟨rfl, h⟩)))) (fun _ _ h => .inr (.inr (.inr (.inr (.inl ⟨rfl, h⟩))))) (fun _ _ h => .inr (.inr (.inr (.inr (.inr (.inl ⟨rfl, h⟩)))))) (fun _ _ h => .inr (.inr (.inr (.inr (.inr (.inr (.inl ⟨rfl, h⟩))))))) (fun _ _ h => .inr (.inr (.inr (.inr (.inr (.inr (.inr (.inl ⟨rfl, h⟩)))))))) (.inr (.inr (.inr (.inr (.inr (.inl ⟨wakes8_R, w1, hA1, hB1, o, s1, s2, s3, s4, s5, s6, s7⟩))))))
end Go.Proofs.Yticngjjdjmadgaa.Num
end
