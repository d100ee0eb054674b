/- Part 1 of the proof. -/
import Derived.Below
import Derived.Deep.Draws
import Derived.Deep.AppendLies
import Derived.Maps.AppendAt
import Derived.OwnWalk
import Derived.Laws.BytesArg
import Derived.Laws.MakeOwn
import Derived.Laws.OwnMore
import Derived.Deep.OwnRows
import Derived.Tactics
import Derived.Lib.ConvBytes
import Derived.Laws.Slices
import Derived.WalkKit
import Derived.KernelRfl
import Derived.RowKit3
import Derived.Deep.LoopGhost
import Derived.Deep.QuietTactic
import Derived.BigQuiet
import Derived.WideLaws
import Derived.Deep.DeepCutAuto
import Derived.Deep.CutBlock
import Derived.Deep.RegionHeld3
import Derived.Laws.Rows
import Derived.Lib.AppendStr
import Derived.ArgAppend
import Derived.Laws.IdiomCopy
import Derived.RowKit
import Derived.OrdersHeld
import Derived.Laws.BitsLemmas
import Derived.Test.YtjkcmnedolfkjaaGreatProg
import Derived.Laws.StructEq
import Derived.Test.YtjkcmnedolfkjaaGreatW0
set_option linter.unusedVariables false
set_option linter.unusedSimpArgs false
set_option maxHeartbeats 8000000
set_option maxRecDepth 100000
section
namespace Go.Proofs.YtjkcmnedolfkjaaGreat.PL
open Go.Proofs.YtjkcmnedolfkjaaGreat.Short
open Go.RowKit Go.Proofs.YtjkcmnedolfkjaaGreatW.PrintWords Go.Proofs.YtjkcmnedolfkjaaGreatW.PrintLast Go.Proofs.YtjkcmnedolfkjaaGreatW.PrintMore
attribute [local go_sem] qOo qOa qUw qVg qJg qKn qNn qO
set_option linter.unusedVariables false
set_option linter.unusedSimpArgs false
theorem q3a : (Tryz.prog.info? 88).map (fun i => (i.zero,i.size,i.bytes)) = some (some (.int .u32 0),1,4) := by kernel_rfl
def q1y.l0 : Nat → List Int → Int → Option (Int)
 | 0,_,_ => none
 | k + 1,x0,x3 => if x3 > 0 then (if 0 ≤ (wrap64 (x3 - 1)) then (if (wrap64 (x3 - 1)) < (x0.length : Int) then (if (rd x0 (wrap64 (x3 - 1))) = 0 then (q1y.l0 k x0 (wrap64 (x3 - 1))) else (some x3)) else (none)) else (none)) else (some x3)
def q1y.f (k : Nat) (l0 : List Int) : Option (Int) := q1y.l0 k l0 (l0.length : Int)
theorem q1y.calls (k : Nat) (A0 : Option Addr) (c0 : Nat) (l0 : List Int) (r : Int) (w : World) (hr0 : Kd.C (Kd.int .u32) w A0 l0.length l0) (hc0 : l0.length ≤ c0) (h : q1y.f k l0 = some r) :
  Calls Tryz.prog 138 #[.slice A0 l0.length c0] w fun e w' => e = .returned (.int .i64 r) ∧ q0s w w' := by
 have HR0 := Aside0.mk hr0
 have HC0 := Aside0.mk hc0
 clear hr0 hc0
 have H : (q1y.l0 k l0 (l0.length : Int)) = some r := h
 clear h
 have H' := Aside0.mk H
 clear H
 go_enter Tryz.func138,Tryz.ntmps138
 go_wp2
 go_loopg [3] k (fun kq v3 w' => ∃ (x3_1 : Int),v3 = .int .i64 x3_1 ∧ Aside0 (q1y.l0 kq l0 x3_1 = some r) ∧ Aside0 (kq ≤ k) ∧ q0s w w')
 case atStart => exact ⟨((l0.length : Int)),(by rfl),H',⟨Nat.le_refl _⟩,by repeat (exact q0s.refl _)⟩
 case round =>
  clear H'
  obtain ⟨x3_1,rfl,HA,HK1,⟨m1,rfl⟩⟩ := hrel
  cases gk with
  | zero => exact absurd HA.out (by simp [q1y.l0])
  | succ k1 =>
   have H := HA.out
   clear HA
   simp only [q1y.l0] at H
   by_cases c2 : x3_1 > 0
   ·rw [if_pos c2] at H
    have c2b0 : decide (0 < x3_1) = true := decide_eq_true c2
    obtain ⟨ji3,hji3⟩ : ∃ j_ : Int,(wrap64 (x3_1 - 1)) = j_ := ⟨_,rfl⟩
    rw [hji3] at H
    have hji3w : (IntKind.i64.wrap (x3_1 - 1)) = ji3 := (q4i _).trans hji3
    by_cases c4 : 0 ≤ (ji3)
    ·rw [if_pos c4] at H
     have c4b0 : decide (0 ≤ (ji3)) = true := decide_eq_true c4
     by_cases c5 : (ji3) < (l0.length : Int)
     ·rw [if_pos c5] at H
      have c5b0 : decide ((ji3) < (l0.length : Int)) = true := decide_eq_true c5
      by_cases c6 : (rd l0 (ji3)) = 0
      ·rw [if_pos c6] at H
       have c6b0 : ((rd l0 (ji3)) == 0) = true := beq_iff_eq.mpr c6
       have c6b1 : ((rd l0 (ji3)) != 0) = false := bne_eq_false_iff_eq.mpr c6
       have H' := Aside0.mk H
       clear H
       have p101 : 0 ≤ ((ji3) : Int) := od
       have q101 : (ji3) < (l0.length : Int) := od
       obtain ⟨ad101,e101,hx101_0⟩ := Kd.at_int HR0.out (ji3) p101 q101
       cases e101
       replace p101 := eq_true p101
       replace q101 := eq_true q101
       go_wp2
       go_roundg k1
       case measure => have := HK1.out; omega
       case rel => exact ⟨(ji3),(by rfl),H',⟨by have := HK1.out; omega⟩,by repeat (first | exact q0s.refl _ | apply q0s.step)⟩
      ·rw [if_neg c6] at H
       have c6b0 : ((rd l0 (ji3)) == 0) = false := beq_eq_false_iff_ne.mpr c6
       have c6b1 : ((rd l0 (ji3)) != 0) = true := bne_iff_ne.mpr c6
       obtain rfl := Option.some.inj H
       have p101 : 0 ≤ ((ji3) : Int) := od
       have q101 : (ji3) < (l0.length : Int) := od
       obtain ⟨ad101,e101,hx101_0⟩ := Kd.at_int HR0.out (ji3) p101 q101
       cases e101
       replace p101 := eq_true p101
       replace q101 := eq_true q101
       go_wp2
       go_ret
       exact ⟨by rfl,by repeat (first | exact q0s.refl _ | apply q0s.step)⟩
     ·rw [if_neg c5] at H
      cases H
    ·rw [if_neg c4] at H
     cases H
   ·rw [if_neg c2] at H
    have c2b0 : decide (0 < x3_1) = false := decide_eq_false c2
    obtain rfl := Option.some.inj H
    go_wp2
    go_ret
    exact ⟨by rfl,by repeat (first | exact q0s.refl _ | apply q0s.step)⟩
def q1p.f (a0 : Int) : Option (Bool) := some (a0 != a0)
theorem q1p.calls (a0 : Int) (r : Bool) (w : World) (h : q1p.f a0 = some r) :
  Calls Tryz.prog 152 #[.int .i64 a0] w fun e w' => e = .returned (.bool r) ∧ q0s w w' := by
 have H : (some (a0 != a0)) = some r := h
 clear h
 obtain rfl := Option.some.inj H
 go_enter Tryz.func152,Tryz.ntmps152
 go_wp2
 go_ret
 exact ⟨by rfl,by repeat (exact q0s.refl _)⟩
def q1w.f (a0 : Int) (a1 : Int) : Option (Int) := (q1p.f a0).bind fun t180 => ((q1p.f a1).bind fun t181 => (if t180 = true then (if t181 = true then (some 0) else (some (-1))) else (if t181 = true then (some 1) else (if a0 < a1 then (some (-1)) else (if a0 > a1 then (some 1) else (some 0))))))
theorem q1w.calls (a0 : Int) (a1 : Int) (r : Int) (w : World) (h : q1w.f a0 a1 = some r) :
  Calls Tryz.prog 139 #[.int .i64 a0,.int .i64 a1] w fun e w' => e = .returned (.int .i64 r) ∧ q0s w w' := by
 have H := h
 unfold q1w.f at H
 clear h
 obtain ⟨t180,A30,H⟩ := bs H
 have A3 := Aside0.mk A30
 clear A30
 obtain ⟨t181,A40,H⟩ := bs H
 have A4 := Aside0.mk A40
 clear A40
 by_cases c5 : t180 = true
 ·subst c5
  have H1 : (if t181 = true then (some 0) else (some (-1))) = some r := by rw [if_pos rfl] at H; exact H
  clear H
  have H := H1
  clear H1
  by_cases c6 : t181 = true
  ·subst c6
   have H1 : (some 0) = some r := by rw [if_pos rfl] at H; exact H
   clear H
   have H := H1
   clear H1
   obtain rfl := Option.some.inj H
   go_enter Tryz.func139,Tryz.ntmps139
   go_wp2_with (first | ((with_reducible refine q0b (f := 152) rfl ?_); refine q0u (some 8) rfl rfl Tryz.func152 (by kernel_rfl) rfl #[.int .i64 a0] rfl (ml) ?_; (with_reducible refine (q1p.calls a0 true _ A3.out).mono ?_); rintro e w' ⟨rfl,⟨nd,rfl⟩⟩; refine ⟨_,rfl,?_⟩) | ((with_reducible refine q0b (f := 152) rfl ?_); refine q0u (some 10) rfl rfl Tryz.func152 (by kernel_rfl) rfl #[.int .i64 a1] rfl (ml) ?_; (with_reducible refine (q1p.calls a1 true _ A4.out).mono ?_); rintro e w' ⟨rfl,⟨nd,rfl⟩⟩; refine ⟨_,rfl,?_⟩))
   go_ret
   exact ⟨by rfl,by repeat (first | exact q0s.refl _ | apply q0s.step)⟩
  ·replace c6 := Bool.eq_false_iff.mpr c6
   subst c6
   have H1 : (some (-1)) = some r := by rw [if_neg (show ¬ (false = true) by decide)] at H; exact H
   clear H
   have H := H1
   clear H1
   obtain rfl := Option.some.inj H
   go_enter Tryz.func139,Tryz.ntmps139
   go_wp2_with (first | ((with_reducible refine q0b (f := 152) rfl ?_); refine q0u (some 8) rfl rfl Tryz.func152 (by kernel_rfl) rfl #[.int .i64 a0] rfl (ml) ?_; (with_reducible refine (q1p.calls a0 true _ A3.out).mono ?_); rintro e w' ⟨rfl,⟨nd,rfl⟩⟩; refine ⟨_,rfl,?_⟩) | ((with_reducible refine q0b (f := 152) rfl ?_); refine q0u (some 10) rfl rfl Tryz.func152 (by kernel_rfl) rfl #[.int .i64 a1] rfl (ml) ?_; (with_reducible refine (q1p.calls a1 false _ A4.out).mono ?_); rintro e w' ⟨rfl,⟨nd,rfl⟩⟩; refine ⟨_,rfl,?_⟩))
   go_ret
   exact ⟨by rfl,by repeat (first | exact q0s.refl _ | apply q0s.step)⟩
 ·replace c5 := Bool.eq_false_iff.mpr c5
  subst c5
  have H1 : (if t181 = true then (some 1) else (if a0 < a1 then (some (-1)) else (if a0 > a1 then (some 1) else (some 0)))) = some r := by rw [if_neg (show ¬ (false = true) by decide)] at H; exact H
  clear H
  have H := H1
  clear H1
  by_cases c7 : t181 = true
  ·subst c7
   have H1 : (some 1) = some r := by rw [if_pos rfl] at H; exact H
   clear H
   have H := H1
   clear H1
   obtain rfl := Option.some.inj H
   go_enter Tryz.func139,Tryz.ntmps139
   go_wp2_with (first | ((with_reducible refine q0b (f := 152) rfl ?_); refine q0u (some 8) rfl rfl Tryz.func152 (by kernel_rfl) rfl #[.int .i64 a0] rfl (ml) ?_; (with_reducible refine (q1p.calls a0 false _ A3.out).mono ?_); rintro e w' ⟨rfl,⟨nd,rfl⟩⟩; refine ⟨_,rfl,?_⟩) | ((with_reducible refine q0b (f := 152) rfl ?_); refine q0u (some 10) rfl rfl Tryz.func152 (by kernel_rfl) rfl #[.int .i64 a1] rfl (ml) ?_; (with_reducible refine (q1p.calls a1 true _ A4.out).mono ?_); rintro e w' ⟨rfl,⟨nd,rfl⟩⟩; refine ⟨_,rfl,?_⟩))
   go_ret
   exact ⟨by rfl,by repeat (first | exact q0s.refl _ | apply q0s.step)⟩
  ·replace c7 := Bool.eq_false_iff.mpr c7
   subst c7
   have H1 : (if a0 < a1 then (some (-1)) else (if a0 > a1 then (some 1) else (some 0))) = some r := by rw [if_neg (show ¬ (false = true) by decide)] at H; exact H
   clear H
   have H := H1
   clear H1
   by_cases c8 : a0 < a1
   ·rw [if_pos c8] at H
    have c8b0 : decide (a0 < a1) = true := decide_eq_true c8
    obtain rfl := Option.some.inj H
    go_enter Tryz.func139,Tryz.ntmps139
    go_wp2_with (first | ((with_reducible refine q0b (f := 152) rfl ?_); refine q0u (some 8) rfl rfl Tryz.func152 (by kernel_rfl) rfl #[.int .i64 a0] rfl (ml) ?_; (with_reducible refine (q1p.calls a0 false _ A3.out).mono ?_); rintro e w' ⟨rfl,⟨nd,rfl⟩⟩; refine ⟨_,rfl,?_⟩) | ((with_reducible refine q0b (f := 152) rfl ?_); refine q0u (some 10) rfl rfl Tryz.func152 (by kernel_rfl) rfl #[.int .i64 a1] rfl (ml) ?_; (with_reducible refine (q1p.calls a1 false _ A4.out).mono ?_); rintro e w' ⟨rfl,⟨nd,rfl⟩⟩; refine ⟨_,rfl,?_⟩))
    go_ret
    exact ⟨by rfl,by repeat (first | exact q0s.refl _ | apply q0s.step)⟩
   ·rw [if_neg c8] at H
    have c8b0 : decide (a0 < a1) = false := decide_eq_false c8
    by_cases c9 : a0 > a1
    ·rw [if_pos c9] at H
     have c9b0 : decide (a1 < a0) = true := decide_eq_true c9
     obtain rfl := Option.some.inj H
     go_enter Tryz.func139,Tryz.ntmps139
     go_wp2_with (first | ((with_reducible refine q0b (f := 152) rfl ?_); refine q0u (some 8) rfl rfl Tryz.func152 (by kernel_rfl) rfl #[.int .i64 a0] rfl (ml) ?_; (with_reducible refine (q1p.calls a0 false _ A3.out).mono ?_); rintro e w' ⟨rfl,⟨nd,rfl⟩⟩; refine ⟨_,rfl,?_⟩) | ((with_reducible refine q0b (f := 152) rfl ?_); refine q0u (some 10) rfl rfl Tryz.func152 (by kernel_rfl) rfl #[.int .i64 a1] rfl (ml) ?_; (with_reducible refine (q1p.calls a1 false _ A4.out).mono ?_); rintro e w' ⟨rfl,⟨nd,rfl⟩⟩; refine ⟨_,rfl,?_⟩))
     go_ret
     exact ⟨by rfl,by repeat (first | exact q0s.refl _ | apply q0s.step)⟩
    ·rw [if_neg c9] at H
     have c9b0 : decide (a1 < a0) = false := decide_eq_false c9
     obtain rfl := Option.some.inj H
     go_enter Tryz.func139,Tryz.ntmps139
     go_wp2_with (first | ((with_reducible refine q0b (f := 152) rfl ?_); refine q0u (some 8) rfl rfl Tryz.func152 (by kernel_rfl) rfl #[.int .i64 a0] rfl (ml) ?_; (with_reducible refine (q1p.calls a0 false _ A3.out).mono ?_); rintro e w' ⟨rfl,⟨nd,rfl⟩⟩; refine ⟨_,rfl,?_⟩) | ((with_reducible refine q0b (f := 152) rfl ?_); refine q0u (some 10) rfl rfl Tryz.func152 (by kernel_rfl) rfl #[.int .i64 a1] rfl (ml) ?_; (with_reducible refine (q1p.calls a1 false _ A4.out).mono ?_); rintro e w' ⟨rfl,⟨nd,rfl⟩⟩; refine ⟨_,rfl,?_⟩))
     go_ret
     exact ⟨by rfl,by repeat (first | exact q0s.refl _ | apply q0s.step)⟩
def q1c.f (a0 : Int) : Option (Bool) := some (a0 != a0)
theorem q1c.calls (a0 : Int) (r : Bool) (w : World) (h : q1c.f a0 = some r) :
  Calls Tryz.prog 153 #[.int .u32 a0] w fun e w' => e = .returned (.bool r) ∧ q0s w w' := by
 have H : (some (a0 != a0)) = some r := h
 clear h
 obtain rfl := Option.some.inj H
 go_enter Tryz.func153,Tryz.ntmps153
 go_wp2
 go_ret
 exact ⟨by rfl,by repeat (exact q0s.refl _)⟩
def q1i.f (a0 : Int) (a1 : Int) : Option (Int) := (q1c.f a0).bind fun t182 => ((q1c.f a1).bind fun t183 => (if t182 = true then (if t183 = true then (some 0) else (some (-1))) else (if t183 = true then (some 1) else (if a0 < a1 then (some (-1)) else (if a0 > a1 then (some 1) else (some 0))))))
theorem q1i.calls (a0 : Int) (a1 : Int) (r : Int) (w : World) (h : q1i.f a0 a1 = some r) :
  Calls Tryz.prog 140 #[.int .u32 a0,.int .u32 a1] w fun e w' => e = .returned (.int .i64 r) ∧ q0s w w' := by
 have H := h
 unfold q1i.f at H
 clear h
 obtain ⟨t182,A30,H⟩ := bs H
 have A3 := Aside0.mk A30
 clear A30
 obtain ⟨t183,A40,H⟩ := bs H
 have A4 := Aside0.mk A40
 clear A40
 by_cases c5 : t182 = true
 ·subst c5
  have H1 : (if t183 = true then (some 0) else (some (-1))) = some r := by rw [if_pos rfl] at H; exact H
  clear H
  have H := H1
  clear H1
  by_cases c6 : t183 = true
  ·subst c6
   have H1 : (some 0) = some r := by rw [if_pos rfl] at H; exact H
   clear H
   have H := H1
   clear H1
   obtain rfl := Option.some.inj H
   go_enter Tryz.func140,Tryz.ntmps140
   go_wp2_with (first | ((with_reducible refine q0b (f := 153) rfl ?_); refine q0u (some 8) rfl rfl Tryz.func153 (by kernel_rfl) rfl #[.int .u32 a0] rfl (ml) ?_; (with_reducible refine (q1c.calls a0 true _ A3.out).mono ?_); rintro e w' ⟨rfl,⟨nd,rfl⟩⟩; refine ⟨_,rfl,?_⟩) | ((with_reducible refine q0b (f := 153) rfl ?_); refine q0u (some 10) rfl rfl Tryz.func153 (by kernel_rfl) rfl #[.int .u32 a1] rfl (ml) ?_; (with_reducible refine (q1c.calls a1 true _ A4.out).mono ?_); rintro e w' ⟨rfl,⟨nd,rfl⟩⟩; refine ⟨_,rfl,?_⟩))
   go_ret
   exact ⟨by rfl,by repeat (first | exact q0s.refl _ | apply q0s.step)⟩
  ·replace c6 := Bool.eq_false_iff.mpr c6
   subst c6
   have H1 : (some (-1)) = some r := by rw [if_neg (show ¬ (false = true) by decide)] at H; exact H
   clear H
   have H := H1
   clear H1
   obtain rfl := Option.some.inj H
   go_enter Tryz.func140,Tryz.ntmps140
   go_wp2_with (first | ((with_reducible refine q0b (f := 153) rfl ?_); refine q0u (some 8) rfl rfl Tryz.func153 (by kernel_rfl) rfl #[.int .u32 a0] rfl (ml) ?_; (with_reducible refine (q1c.calls a0 true _ A3.out).mono ?_); rintro e w' ⟨rfl,⟨nd,rfl⟩⟩; refine ⟨_,rfl,?_⟩) | ((with_reducible refine q0b (f := 153) rfl ?_); refine q0u (some 10) rfl rfl Tryz.func153 (by kernel_rfl) rfl #[.int .u32 a1] rfl (ml) ?_; (with_reducible refine (q1c.calls a1 false _ A4.out).mono ?_); rintro e w' ⟨rfl,⟨nd,rfl⟩⟩; refine ⟨_,rfl,?_⟩))
   go_ret
   exact ⟨by rfl,by repeat (first | exact q0s.refl _ | apply q0s.step)⟩
 ·replace c5 := Bool.eq_false_iff.mpr c5
  subst c5
  have H1 : (if t183 = true then (some 1) else (if a0 < a1 then (some (-1)) else (if a0 > a1 then (some 1) else (some 0)))) = some r := by rw [if_neg (show ¬ (false = true) by decide)] at H; exact H
  clear H
  have H := H1
  clear H1
  by_cases c7 : t183 = true
  ·subst c7
   have H1 : (some 1) = some r := by rw [if_pos rfl] at H; exact H
   clear H
   have H := H1
   clear H1
   obtain rfl := Option.some.inj H
   go_enter Tryz.func140,Tryz.ntmps140
   go_wp2_with (first | ((with_reducible refine q0b (f := 153) rfl ?_); refine q0u (some 8) rfl rfl Tryz.func153 (by kernel_rfl) rfl #[.int .u32 a0] rfl (ml) ?_; (with_reducible refine (q1c.calls a0 false _ A3.out).mono ?_); rintro e w' ⟨rfl,⟨nd,rfl⟩⟩; refine ⟨_,rfl,?_⟩) | ((with_reducible refine q0b (f := 153) rfl ?_); refine q0u (some 10) rfl rfl Tryz.func153 (by kernel_rfl) rfl #[.int .u32 a1] rfl (ml) ?_; (with_reducible refine (q1c.calls a1 true _ A4.out).mono ?_); rintro e w' ⟨rfl,⟨nd,rfl⟩⟩; refine ⟨_,rfl,?_⟩))
   go_ret
   exact ⟨by rfl,by repeat (first | exact q0s.refl _ | apply q0s.step)⟩
  ·replace c7 := Bool.eq_false_iff.mpr c7
   subst c7
   have H1 : (if a0 < a1 then (some (-1)) else (if a0 > a1 then (some 1) else (some 0))) = some r := by rw [if_neg (show ¬ (false = true) by decide)] at H; exact H
   clear H
   have H := H1
   clear H1
   by_cases c8 : a0 < a1
   ·rw [if_pos c8] at H
    have c8b0 : decide (a0 < a1) = true := decide_eq_true c8
    obtain rfl := Option.some.inj H
    go_enter Tryz.func140,Tryz.ntmps140
    go_wp2_with (first | ((with_reducible refine q0b (f := 153) rfl ?_); refine q0u (some 8) rfl rfl Tryz.func153 (by kernel_rfl) rfl #[.int .u32 a0] rfl (ml) ?_; (with_reducible refine (q1c.calls a0 false _ A3.out).mono ?_); rintro e w' ⟨rfl,⟨nd,rfl⟩⟩; refine ⟨_,rfl,?_⟩) | ((with_reducible refine q0b (f := 153) rfl ?_); refine q0u (some 10) rfl rfl Tryz.func153 (by kernel_rfl) rfl #[.int .u32 a1] rfl (ml) ?_; (with_reducible refine (q1c.calls a1 false _ A4.out).mono ?_); rintro e w' ⟨rfl,⟨nd,rfl⟩⟩; refine ⟨_,rfl,?_⟩))
    go_ret
    exact ⟨by rfl,by repeat (first | exact q0s.refl _ | apply q0s.step)⟩
   ·rw [if_neg c8] at H
    have c8b0 : decide (a0 < a1) = false := decide_eq_false c8
    by_cases c9 : a0 > a1
    ·rw [if_pos c9] at H
     have c9b0 : decide (a1 < a0) = true := decide_eq_true c9
     obtain rfl := Option.some.inj H
     go_enter Tryz.func140,Tryz.ntmps140
     go_wp2_with (first | ((with_reducible refine q0b (f := 153) rfl ?_); refine q0u (some 8) rfl rfl Tryz.func153 (by kernel_rfl) rfl #[.int .u32 a0] rfl (ml) ?_; (with_reducible refine (q1c.calls a0 false _ A3.out).mono ?_); rintro e w' ⟨rfl,⟨nd,rfl⟩⟩; refine ⟨_,rfl,?_⟩) | ((with_reducible refine q0b (f := 153) rfl ?_); refine q0u (some 10) rfl rfl Tryz.func153 (by kernel_rfl) rfl #[.int .u32 a1] rfl (ml) ?_; (with_reducible refine (q1c.calls a1 false _ A4.out).mono ?_); rintro e w' ⟨rfl,⟨nd,rfl⟩⟩; refine ⟨_,rfl,?_⟩))
     go_ret
     exact ⟨by rfl,by repeat (first | exact q0s.refl _ | apply q0s.step)⟩
    ·rw [if_neg c9] at H
     have c9b0 : decide (a1 < a0) = false := decide_eq_false c9
     obtain rfl := Option.some.inj H
     go_enter Tryz.func140,Tryz.ntmps140
     go_wp2_with (first | ((with_reducible refine q0b (f := 153) rfl ?_); refine q0u (some 8) rfl rfl Tryz.func153 (by kernel_rfl) rfl #[.int .u32 a0] rfl (ml) ?_; (with_reducible refine (q1c.calls a0 false _ A3.out).mono ?_); rintro e w' ⟨rfl,⟨nd,rfl⟩⟩; refine ⟨_,rfl,?_⟩) | ((with_reducible refine q0b (f := 153) rfl ?_); refine q0u (some 10) rfl rfl Tryz.func153 (by kernel_rfl) rfl #[.int .u32 a1] rfl (ml) ?_; (with_reducible refine (q1c.calls a1 false _ A4.out).mono ?_); rintro e w' ⟨rfl,⟨nd,rfl⟩⟩; refine ⟨_,rfl,?_⟩))
     go_ret
     exact ⟨by rfl,by repeat (first | exact q0s.refl _ | apply q0s.step)⟩
def q2p.l0 : Nat → List Int → List Int → Int → Option (Int)
 | 0,_,_,_ => none
 | k + 1,x0,x1,x7 => if x7 ≥ 0 then (if 0 ≤ x7 then (if x7 < (x0.length : Int) then (if x7 < (x1.length : Int) then ((q1i.f (rd x0 x7) (rd x1 x7)).bind fun t189 => (if t189 = 0 then (q2p.l0 k x0 x1 (wrap64 (x7 - 1))) else (some t189))) else (none)) else (none)) else (none)) else (some 0)
def q2p.f (k : Nat) (l0 : List Int) (l1 : List Int) : Option (Int) := (q1y.f k l0).bind fun t184 => ((q1y.f k l1).bind fun t185 => ((q1w.f t184 t185).bind fun t186 => (if t186 = 0 then (q2p.l0 k l0 l1 (wrap64 (t184 - 1))) else (some t186))))
theorem q2p.calls (k : Nat) (A0 : Option Addr) (c0 : Nat) (l0 : List Int) (A1 : Option Addr) (c1 : Nat) (l1 : List Int) (r : Int) (w : World) (hr0 : Kd.C (Kd.int .u32) w A0 l0.length l0) (hc0 : l0.length ≤ c0) (hr1 : Kd.C (Kd.int .u32) w A1 l1.length l1) (hc1 : l1.length ≤ c1) (h : q2p.f k l0 l1 = some r) :
  Calls Tryz.prog 116 #[.slice A0 l0.length c0,.slice A1 l1.length c1] w fun e w' => e = .returned (.int .i64 r) ∧ q0s w w' := by
 have HR0 := Aside0.mk hr0
 have HC0 := Aside0.mk hc0
 clear hr0 hc0
 have HR1 := Aside0.mk hr1
 have HC1 := Aside0.mk hc1
 clear hr1 hc1
 have H := h
 unfold q2p.f at H
 clear h
 obtain ⟨t184,A30,H⟩ := bs H
 have A3 := Aside0.mk A30
 clear A30
 obtain ⟨t185,A40,H⟩ := bs H
 have A4 := Aside0.mk A40
 clear A40
 obtain ⟨t186,A50,H⟩ := bs H
 have A5 := Aside0.mk A50
 clear A50
 by_cases c6 : t186 = 0
 ·rw [if_pos c6] at H
  have c6b0 : (t186 == 0) = true := beq_iff_eq.mpr c6
  have c6b1 : (t186 != 0) = false := bne_eq_false_iff_eq.mpr c6
  have H' := Aside0.mk H
  clear H
  go_enter Tryz.func116,Tryz.ntmps116
  go_wp2_with (first | (go_at_call 138; (with_reducible refine (q1y.calls k _ _ l0 t184 _ ?side1 ?side2 A3.out).mono ?_); (case side1 => repeat (exact HR0.out)); (case side2 => exact HC0.out); rintro e w' ⟨rfl,⟨nd,rfl⟩⟩; (try exact ⟨rfl,_,World.drewN_drewN _ _ _⟩)) | (go_at_call 138; (with_reducible refine (q1y.calls k _ _ l1 t185 _ ?side1 ?side2 A4.out).mono ?_); (case side1 => repeat (exact HR1.out)); (case side2 => exact HC1.out); rintro e w' ⟨rfl,⟨nd,rfl⟩⟩; (try exact ⟨rfl,_,World.drewN_drewN _ _ _⟩)) | (go_at_call 139; (with_reducible refine (q1w.calls t184 t185 t186 _ A5.out).mono ?_); rintro e w' ⟨rfl,⟨nd,rfl⟩⟩; (try exact ⟨rfl,_,World.drewN_drewN _ _ _⟩)))
  repeat (go_quiet ((go_at_call 139; (with_reducible refine (q1w.calls t184 t185 t186 _ A5.out).mono ?_); rintro e w' ⟨rfl,⟨nd,rfl⟩⟩; (try exact ⟨rfl,_,World.drewN_drewN _ _ _⟩))); try go_wp2_with ((go_at_call 139; (with_reducible refine (q1w.calls t184 t185 t186 _ A5.out).mono ?_); rintro e w' ⟨rfl,⟨nd,rfl⟩⟩; (try exact ⟨rfl,_,World.drewN_drewN _ _ _⟩))))
  go_loopg [7] k (fun kq v7 w' => ∃ (x7_1 : Int),v7 = .int .i64 x7_1 ∧ Aside0 (q2p.l0 kq l0 l1 x7_1 = some r) ∧ Aside0 (kq ≤ k) ∧ q0s w w')
  case atStart => exact ⟨(wrap64 (t184 - 1)),(by rfl),H',⟨Nat.le_refl _⟩,by repeat (first | exact q0s.refl _ | apply q0s.step)⟩
  case round =>
   clear H'
   obtain ⟨x7_1,rfl,HA,HK1,⟨m1,rfl⟩⟩ := hrel
   cases gk with
   | zero => exact absurd HA.out (by simp [q2p.l0])
   | succ k1 =>
    have H := HA.out
    clear HA
    simp only [q2p.l0] at H
    by_cases c7 : x7_1 ≥ 0
    ·rw [if_pos c7] at H
     have c7b0 : decide (0 ≤ x7_1) = true := decide_eq_true c7
     by_cases c8 : 0 ≤ x7_1
     ·rw [if_pos c8] at H
      have c8b0 : decide (0 ≤ x7_1) = true := decide_eq_true c8
      by_cases c9 : x7_1 < (l0.length : Int)
      ·rw [if_pos c9] at H
       have c9b0 : decide (x7_1 < (l0.length : Int)) = true := decide_eq_true c9
       by_cases c10 : x7_1 < (l1.length : Int)
       ·rw [if_pos c10] at H
        have c10b0 : decide (x7_1 < (l1.length : Int)) = true := decide_eq_true c10
        obtain ⟨t189,A110,H⟩ := bs H
        have A11 := Aside0.mk A110
        clear A110
        by_cases c12 : t189 = 0
        ·rw [if_pos c12] at H
         have c12b0 : (t189 == 0) = true := beq_iff_eq.mpr c12
         have c12b1 : (t189 != 0) = false := bne_eq_false_iff_eq.mpr c12
         have H' := Aside0.mk H
         clear H
         have p187 : 0 ≤ (x7_1 : Int) := od
         have q187 : x7_1 < (l0.length : Int) := od
         obtain ⟨ad187,e187,hx187_0⟩ := Kd.at_int HR0.out x7_1 p187 q187
         cases e187
         replace p187 := eq_true p187
         replace q187 := eq_true q187
         have p188 : 0 ≤ (x7_1 : Int) := od
         have q188 : x7_1 < (l1.length : Int) := od
         obtain ⟨ad188,e188,hx188_0⟩ := Kd.at_int HR1.out x7_1 p188 q188
         cases e188
         replace p188 := eq_true p188
         replace q188 := eq_true q188
         go_wp2_with ((go_at_call 140; (with_reducible refine (q1i.calls (rd l0 x7_1) (rd l1 x7_1) t189 _ A11.out).mono ?_); rintro e w' ⟨rfl,⟨nd,rfl⟩⟩; (try exact ⟨rfl,_,World.drewN_drewN _ _ _⟩)))
         repeat (go_quiet ((go_at_call 140; (with_reducible refine (q1i.calls (rd l0 x7_1) (rd l1 x7_1) t189 _ A11.out).mono ?_); rintro e w' ⟨rfl,⟨nd,rfl⟩⟩; (try exact ⟨rfl,_,Eq.trans (World.drewN_drewN _ _ _) (congrArg (World.drewN _) (Nat.add_assoc _ _ _))⟩))); try go_wp2_with ((go_at_call 140; (with_reducible refine (q1i.calls (rd l0 x7_1) (rd l1 x7_1) t189 _ A11.out).mono ?_); rintro e w' ⟨rfl,⟨nd,rfl⟩⟩; (try exact ⟨rfl,_,World.drewN_drewN _ _ _⟩))))
         go_roundg k1
         case measure => have := HK1.out; omega
         case rel => exact ⟨(wrap64 (x7_1 - 1)),(by rfl),H',⟨by have := HK1.out; omega⟩,by repeat (first | exact q0s.refl _ | apply q0s.step)⟩
        ·rw [if_neg c12] at H
         have c12b0 : (t189 == 0) = false := beq_eq_false_iff_ne.mpr c12
         have c12b1 : (t189 != 0) = true := bne_iff_ne.mpr c12
         obtain rfl := Option.some.inj H
         have p187 : 0 ≤ (x7_1 : Int) := od
         have q187 : x7_1 < (l0.length : Int) := od
         obtain ⟨ad187,e187,hx187_0⟩ := Kd.at_int HR0.out x7_1 p187 q187
         cases e187
         replace p187 := eq_true p187
         replace q187 := eq_true q187
         have p188 : 0 ≤ (x7_1 : Int) := od
         have q188 : x7_1 < (l1.length : Int) := od
         obtain ⟨ad188,e188,hx188_0⟩ := Kd.at_int HR1.out x7_1 p188 q188
         cases e188
         replace p188 := eq_true p188
         replace q188 := eq_true q188
         go_wp2_with ((go_at_call 140; (with_reducible refine (q1i.calls (rd l0 x7_1) (rd l1 x7_1) t189 _ A11.out).mono ?_); rintro e w' ⟨rfl,⟨nd,rfl⟩⟩; (try exact ⟨rfl,_,World.drewN_drewN _ _ _⟩)))
         repeat (go_quiet ((go_at_call 140; (with_reducible refine (q1i.calls (rd l0 x7_1) (rd l1 x7_1) t189 _ A11.out).mono ?_); rintro e w' ⟨rfl,⟨nd,rfl⟩⟩; (try exact ⟨rfl,_,Eq.trans (World.drewN_drewN _ _ _) (congrArg (World.drewN _) (Nat.add_assoc _ _ _))⟩))); try go_wp2_with ((go_at_call 140; (with_reducible refine (q1i.calls (rd l0 x7_1) (rd l1 x7_1) t189 _ A11.out).mono ?_); rintro e w' ⟨rfl,⟨nd,rfl⟩⟩; (try exact ⟨rfl,_,World.drewN_drewN _ _ _⟩))))
         go_ret
         exact ⟨by rfl,by repeat (first | exact q0s.refl _ | apply q0s.step)⟩
       ·rw [if_neg c10] at H
        cases H
      ·rw [if_neg c9] at H
       cases H
     ·rw [if_neg c8] at H
      cases H
    ·rw [if_neg c7] at H
     have c7b0 : decide (0 ≤ x7_1) = false := decide_eq_false c7
     obtain rfl := Option.some.inj H
     go_wp2
     repeat (go_quiet (fail); try go_wp2)
     go_ret
     exact ⟨by rfl,by repeat (first | exact q0s.refl _ | apply q0s.step)⟩
 ·rw [if_neg c6] at H
  have c6b0 : (t186 == 0) = false := beq_eq_false_iff_ne.mpr c6
  have c6b1 : (t186 != 0) = true := bne_iff_ne.mpr c6
  obtain rfl := Option.some.inj H
  go_enter Tryz.func116,Tryz.ntmps116
  go_wp2_with (first | (go_at_call 138; (with_reducible refine (q1y.calls k _ _ l0 t184 _ ?side1 ?side2 A3.out).mono ?_); (case side1 => repeat (exact HR0.out)); (case side2 => exact HC0.out); rintro e w' ⟨rfl,⟨nd,rfl⟩⟩; (try exact ⟨rfl,_,World.drewN_drewN _ _ _⟩)) | (go_at_call 138; (with_reducible refine (q1y.calls k _ _ l1 t185 _ ?side1 ?side2 A4.out).mono ?_); (case side1 => repeat (exact HR1.out)); (case side2 => exact HC1.out); rintro e w' ⟨rfl,⟨nd,rfl⟩⟩; (try exact ⟨rfl,_,World.drewN_drewN _ _ _⟩)) | (go_at_call 139; (with_reducible refine (q1w.calls t184 t185 t186 _ A5.out).mono ?_); rintro e w' ⟨rfl,⟨nd,rfl⟩⟩; (try exact ⟨rfl,_,World.drewN_drewN _ _ _⟩)))
  repeat (go_quiet ((go_at_call 139; (with_reducible refine (q1w.calls t184 t185 t186 _ A5.out).mono ?_); rintro e w' ⟨rfl,⟨nd,rfl⟩⟩; (try exact ⟨rfl,_,World.drewN_drewN _ _ _⟩))); try go_wp2_with ((go_at_call 139; (with_reducible refine (q1w.calls t184 t185 t186 _ A5.out).mono ?_); rintro e w' ⟨rfl,⟨nd,rfl⟩⟩; (try exact ⟨rfl,_,World.drewN_drewN _ _ _⟩))))
  go_ret
  exact ⟨by rfl,by repeat (first | exact q0s.refl _ | apply q0s.step)⟩
def q1a.f (k : Nat) (l0 : List Int) : Option (List Int) := (q1y.f k l0).bind fun t102 => (if 0 ≤ t102 then (if (t102 : Int).toNat ≤ 70368744177664 then (some (splice (List.replicate (t102 : Int).toNat 0) 0 l0)) else (none)) else (none))
theorem q1a.calls (k : Nat) (A0 : Option Addr) (c0 : Nat) (l0 : List Int) (r : List Int) (w : World) (hr0 : Kd.C (Kd.int .u32) w A0 l0.length l0) (hc0 : l0.length ≤ c0) (h : q1a.f k l0 = some r) :
  Calls Tryz.prog 133 #[.slice A0 l0.length c0] w fun e w' => ∃ v0_ : Value,e = .returned (v0_) ∧ Kd.R (Kd.int .u32) 88 w' w.heap.size (fun _ => True) v0_ r ∧ Below w.heap.size w w' := by
 have HR0 := Aside0.mk hr0
 have HC0 := Aside0.mk hc0
 clear hr0 hc0
 have HB := Aside0.mk (Below.refl w.heap.size w)
 have H := h
 unfold q1a.f at H
 clear h
 obtain ⟨t102,A20,H⟩ := bs H
 have A2 := Aside0.mk A20
 clear A20
 by_cases c3 : 0 ≤ t102
 ·rw [if_pos c3] at H
  have c3b0 := eq_true c3
  have c3b1 : decide (0 ≤ t102) = true := decide_eq_true c3
  by_cases c4 : (t102 : Int).toNat ≤ 70368744177664
  ·rw [if_pos c4] at H
   have c4b0 := eq_true c4
   have c4b1 : decide ((t102 : Int).toNat ≤ 70368744177664) = true := decide_eq_true c4
   obtain ⟨y103,hy103⟩ : ∃ y_ : List Int,y_ = (List.replicate (t102 : Int).toNat 0) := ⟨_,rfl⟩
   rw [← hy103] at H
   have Ny103 := Aside0.mk hy103
   clear hy103
   obtain ⟨y106,hy106⟩ : ∃ y_ : List Int,y_ = (splice y103 0 l0) := ⟨_,rfl⟩
   rw [← hy106] at H
   have Ny106 := Aside0.mk hy106
   clear hy106
   obtain rfl := Option.some.inj H
   go_enter Tryz.func133,Tryz.ntmps133
   go_wp2_with (first | ((with_reducible refine q0b (f := 138) rfl ?_); refine q0u (some 5) rfl rfl Tryz.func138 (by kernel_rfl) rfl #[.slice A0 l0.length c0] rfl (ml) ?_; (with_reducible refine (q1y.calls k _ _ l0 t102 _ ?side1 ?side2 A2.out).mono ?_); (case side1 => repeat (exact HR0.out)); (case side2 => exact HC0.out); rintro e w' ⟨rfl,⟨nd,rfl⟩⟩; refine ⟨_,rfl,?_⟩) | ((with_reducible refine q3b (N := 6) rfl ?_); refine Kd.R_make (Kd.int .u32) _ 88 rfl (N := 6) rfl 43 _ _ rfl t102 rfl rfl Tryz.underlying43 (.int .u32 0) 4 q3a rfl (by decide) (by omega) 0 (ok := fun _ => True) (okp := fun _ => True) rfl (fun _ hk => hk) trivial (od) (Nat.le_trans (Nat.mul_le_mul_right _ (od : t102.toNat ≤ 70368744177664)) (by omega)) (Below.refl _ _) (Nat.le_refl _) ?_; intro v104 w5 ho6 hb hg_ hnew_; clear hg_ hnew_; (rw [← Ny103.out] at ho6); have HO105 := Aside0.mk (Kd.R_lower ho6 (q0e (hb0 HB))); replace HB := Aside0.mk (q0h (hb0 HB) hb); clear hb ho6; obtain ⟨Ao9,co9,eo9⟩ := Kd.R_slice HO105.out; subst eo9) | ((with_reducible refine q1u (b := .copy) (xs := #[.tmp 7,.tmp 8]) rfl ?_); refine Kd.R_copy_whole (enc := (Value.int .u32)) (h1 := fun _ => rfl) (w0 := w) 0 w.heap.size rfl (.tmp 7) (.tmp 8) 43 43 88 rfl Tryz.underlying43 q3a (.slice Ao9 y103.length co9) y103 l0 _ _ _ (fun _ => True) rfl rfl ?aO ?aR ?aB ?aS ?_; (case aO => exact (rm HO105)); (case aR => exact cb HR0 HB); (case aB => exact (hb0 HB)); (case aS => exact (q0e (hb0 HB))); intro w8 n_ hg hp_ hb; rw [← Ny106.out] at hp_; replace HO105 := Aside0.mk (hp_); replace HB := Aside0.mk (hb); clear hb hg hp_))
   go_ret
   exact ⟨_,by rfl,rm HO105,hb0 HB⟩
  ·rw [if_neg c4] at H
   cases H
 ·rw [if_neg c3] at H
  cases H
def q8k.f (l0 : List Int) (a1 : Int) : Option (Int) := if a1 < (l0.length : Int) then (if 0 ≤ a1 then (some (rd l0 a1)) else (none)) else (some 0)
theorem q8k.calls (A0 : Option Addr) (c0 : Nat) (l0 : List Int) (a1 : Int) (r : Int) (w : World) (hr0 : Kd.C (Kd.int .u32) w A0 l0.length l0) (hc0 : l0.length ≤ c0) (h : q8k.f l0 a1 = some r) :
  Calls Tryz.prog 159 #[.slice A0 l0.length c0,.int .i64 a1] w fun e w' => e = .returned (.int .u32 r) ∧ q0s w w' := by
 have HR0 := Aside0.mk hr0
 have HC0 := Aside0.mk hc0
 clear hr0 hc0
 have H := h
 unfold q8k.f at H
 clear h
 by_cases c3 : a1 < (l0.length : Int)
 ·rw [if_pos c3] at H
  have c3b0 : decide (a1 < (l0.length : Int)) = true := decide_eq_true c3
  by_cases c4 : 0 ≤ a1
  ·rw [if_pos c4] at H
   have c4b0 : decide (0 ≤ a1) = true := decide_eq_true c4
   obtain rfl := Option.some.inj H
   have p190 : 0 ≤ (a1 : Int) := od
   have q190 : a1 < (l0.length : Int) := od
   obtain ⟨ad190,e190,hx190_0⟩ := Kd.at_int HR0.out a1 p190 q190
   cases e190
   replace p190 := eq_true p190
   replace q190 := eq_true q190
   go_enter Tryz.func159,Tryz.ntmps159
   go_wp2
   go_ret
   exact ⟨by rfl,by repeat (exact q0s.refl _)⟩
  ·rw [if_neg c4] at H
   cases H
 ·rw [if_neg c3] at H
  have c3b0 : decide (a1 < (l0.length : Int)) = false := decide_eq_false c3
  obtain rfl := Option.some.inj H
  go_enter Tryz.func159,Tryz.ntmps159
  go_wp2
  go_ret
  exact ⟨by rfl,by repeat (exact q0s.refl _)⟩
def q5p.f (a0 : Int) (a1 : Int) (a2 : Int) : Option (Int × Int) := some ((((a0 - a1) % 4294967296) - a2) % 4294967296,(Go.bits .or .u32 (Go.bits .and .u32 (Go.bits .xor .u32 4294967295 a0) a1) (Go.bits .and .u32 (Go.bits .xor .u32 4294967295 (Go.bits .xor .u32 a0 a1)) ((((a0 - a1) % 4294967296) - a2) % 4294967296))) / 2147483648)
theorem q5p.calls (a0 : Int) (a1 : Int) (a2 : Int) (r1 : Int) (r2 : Int) (w : World) (h : q5p.f a0 a1 a2 = some (r1,r2)) :
  Calls Tryz.prog 160 #[.int .u32 a0,.int .u32 a1,.int .u32 a2] w fun e w' => e = .returned (.tuple #[.int .u32 r1,.int .u32 r2]) ∧ q0s w w' := by
 have H := h
 unfold q5p.f at H
 clear h
 simp only [Option.some.injEq,Prod.mk.injEq] at H
 obtain ⟨rfl,rfl⟩ := H
 go_enter Tryz.func160,Tryz.ntmps160
 go_wp2
 go_ret2
 exact ⟨by rfl,by repeat (exact q0s.refl _)⟩
def q1s.l0 : Nat → List Int → List Int → Int → Int → Int → Option (List Int × Bool)
 | 0,_,_,_,_,_ => none
 | k + 1,x1,x6,x7,x16,x17 => if x17 < x16 then (if 0 ≤ x17 then (if x17 < (x6.length : Int) then ((q8k.f x1 x17).bind fun t196 => ((q5p.f (rd x6 x17) t196 x7).bind fun bt197 => (q1s.l0 k x1 (x6.set (x17 : Int).toNat bt197.1) bt197.2 x16 (wrap64 (x17 + 1))))) else (none)) else (none)) else ((q1a.f k x6).bind fun t200 => (some (t200,true)))
def q1s.f (k : Nat) (l0 : List Int) (l1 : List Int) : Option (List Int × Bool) := (q2p.f k l0 l1).bind fun t191 => (if t191 < 0 then (some (([] : List Int),false)) else ((q1a.f k l0).bind fun t192 => (q1s.l0 k l1 t192 0 (t192.length : Int) 0)))
def q1s.T8 : Bool × List (List Nat × List Nat) := (true,[([],[]),([],[]),([],[]),([],[]),([2,3],[2,3]),([4],[4]),([],[]),([],[]),([6,7],[6,7]),([],[]),([5,8,9,8],[5,8,9]),([10],[10]),([11],[11]),([11],[11]),([0,1,0,1,2,3,4,5,6,7,8,9,10,11,12],[0,1]),([14,12,10,0,1,2,3,4,5,6,7,8,9,10,11,12],[12,14]),([13,15,0,1,2,3,4,5,6,7,8,9,10,11,12,13,14,15],[9,13])])
def q1s.B8 : List Nat := [0,0,0,0,12,28,0,0,192,0,1020,2044,4092,4092,8191,24575,65535]
theorem q1s.tab8 : qFd .any (opsOf Tryz.f144 8) = q1s.T8 := by kernel_rfl
theorem q1s.bits8 : qEg q1s.T8.2 q1s.B8 = true := by kernel_rfl
theorem q1s.calls (k : Nat) (A0 : Option Addr) (c0 : Nat) (l0 : List Int) (A1 : Option Addr) (c1 : Nat) (l1 : List Int) (r1 : List Int) (r2 : Bool) (w : World) (hr0 : Kd.C (Kd.int .u32) w A0 l0.length l0) (hc0 : l0.length ≤ c0) (hr1 : Kd.C (Kd.int .u32) w A1 l1.length l1) (hc1 : l1.length ≤ c1) (h : q1s.f k l0 l1 = some (r1,r2)) :
  Calls Tryz.prog 144 #[.slice A0 l0.length c0,.slice A1 l1.length c1] w fun e w' => ∃ v0_ : Value,e = .returned (.tuple #[v0_,.bool r2]) ∧ Kd.R (Kd.int .u32) 88 w' w.heap.size (fun _ => True) v0_ r1 ∧ Below w.heap.size w w' := by
 have HR0 := Aside0.mk hr0
 have HC0 := Aside0.mk hc0
 clear hr0 hc0
 have HR1 := Aside0.mk hr1
 have HC1 := Aside0.mk hc1
 clear hr1 hc1
 have HB := Aside0.mk (Below.refl w.heap.size w)
 have H := h
 unfold q1s.f at H
 clear h
 obtain ⟨t191,A30,H⟩ := bs H
 have A3 := Aside0.mk A30
 clear A30
 by_cases c4 : t191 < 0
 ·rw [if_pos c4] at H
  have c4b0 : decide (t191 < 0) = true := decide_eq_true c4
  simp only [Option.some.injEq,Prod.mk.injEq] at H
  obtain ⟨rfl,rfl⟩ := H
  go_enter Tryz.func144,Tryz.ntmps144
  go_wp2_with (((with_reducible refine q0b (f := 116) rfl ?_); refine q0u (some 11) rfl rfl Tryz.func116 (by kernel_rfl) rfl #[.slice A0 l0.length c0,.slice A1 l1.length c1] rfl (ml) ?_; (with_reducible refine (q2p.calls k _ _ l0 _ _ l1 t191 _ ?side1 ?side2 ?side3 ?side4 A3.out).mono ?_); (case side1 => repeat (exact HR0.out)); (case side2 => exact HC0.out); (case side3 => repeat (exact HR1.out)); (case side4 => exact HC1.out); rintro e w' ⟨rfl,⟨nd,rfl⟩⟩; refine ⟨_,rfl,?_⟩))
  go_ret2
  exact ⟨_,by rfl,by exact Kd.R_nil _ _ _ _ _,hb0 HB⟩
 ·rw [if_neg c4] at H
  have c4b0 : decide (t191 < 0) = false := decide_eq_false c4
  obtain ⟨t192,A50,H⟩ := bs H
  have A5 := Aside0.mk A50
  clear A50
  have H' := Aside0.mk H
  clear H
  go_enter Tryz.func144,Tryz.ntmps144
  go_wp2_with (first | ((with_reducible refine q0b (f := 116) rfl ?_); refine q0u (some 11) rfl rfl Tryz.func116 (by kernel_rfl) rfl #[.slice A0 l0.length c0,.slice A1 l1.length c1] rfl (ml) ?_; (with_reducible refine (q2p.calls k _ _ l0 _ _ l1 t191 _ ?side1 ?side2 ?side3 ?side4 A3.out).mono ?_); (case side1 => repeat (exact HR0.out)); (case side2 => exact HC0.out); (case side3 => repeat (exact HR1.out)); (case side4 => exact HC1.out); rintro e w' ⟨rfl,⟨nd,rfl⟩⟩; refine ⟨_,rfl,?_⟩) | ((with_reducible refine q0b (f := 133) rfl ?_); refine q0u (some 14) rfl rfl Tryz.func133 (by kernel_rfl) rfl #[.slice A0 l0.length c0] rfl (ml) ?_; (with_reducible refine (q1a.calls k _ _ l0 t192 _ ?side1 ?side2 A5.out).mono ?_); (case side1 => repeat (exact HR0.out)); (case side2 => exact HC0.out); rintro e w6 ⟨v193,rfl,ho0,hb⟩; refine ⟨_,rfl,?_⟩; have HO194 := Aside0.mk (Kd.R_lower ho0 (q0e (hb0 HB))); replace HB := Aside0.mk (q0h (hb0 HB) hb); obtain ⟨Ao7,co7,eo7⟩ := Kd.R_slice HO194.out; subst eo7))
  go_loopg [7,17] k (fun kq v7 v17 w' => ∃ (x6_1 : List Int) (x7_1 : Int) (x17_1 : Int),v7 = .int .u32 x7_1 ∧ v17 = .int .i64 x17_1 ∧ Aside0 (q1s.l0 kq l1 x6_1 x7_1 (t192.length : Int) x17_1 = some (r1,r2)) ∧ Aside0 (kq ≤ k) ∧ Aside0 (Kd.R (Kd.int .u32) 88 w' w.heap.size (fun _ => True) (.slice Ao7 t192.length co7) x6_1) ∧ Aside0 (Below w.heap.size w w'))
  case atStart => exact ⟨(t192),(0),(0),(by rfl),(by rfl),H',⟨Nat.le_refl _⟩,⟨rm HO194⟩,⟨hb0 HB⟩⟩
  case round =>
   clear H'
   obtain ⟨x6_1,x7_1,x17_1,rfl,rfl,HA,HK1,HO_6,HB⟩ := hrel
   have hl6_1 := (Kd.R_reads' HO_6.out).1
   rw [hl6_1] at HO_6
   (try simp only [hl6_1])
   cases gk with
   | zero => exact absurd HA.out (by simp [q1s.l0])
   | succ k1 =>
    have H := HA.out
    clear HA
    simp only [q1s.l0] at H
    by_cases c8 : x17_1 < (t192.length : Int)
    ·rw [if_pos c8] at H
     have c8b0 : decide (x17_1 < (t192.length : Int)) = true := decide_eq_true c8
     (try simp only [hl6_1] at c8b0)
     by_cases c9 : 0 ≤ x17_1
     ·rw [if_pos c9] at H
      have c9b0 : decide (0 ≤ x17_1) = true := decide_eq_true c9
      by_cases c10 : x17_1 < (x6_1.length : Int)
      ·rw [if_pos c10] at H
       have c10b0 : decide (x17_1 < (x6_1.length : Int)) = true := decide_eq_true c10
       (try simp only [hl6_1] at c10b0)
       obtain ⟨t196,A110,H⟩ := bs H
       have A11 := Aside0.mk A110
       clear A110
       replace H := Option.bind_eq_some_iff.mp H
       obtain ⟨⟨t197,t198⟩,A120,H⟩ := H
       replace H : (q1s.l0 k1 l1 (x6_1.set (x17_1 : Int).toNat t197) t198 (t192.length : Int) (wrap64 (x17_1 + 1))) = some (r1,r2) := H
       have A12 := Aside0.mk A120
       clear A120
       obtain ⟨y199,hy199⟩ : ∃ y_ : List Int,y_ = (x6_1.set (x17_1 : Int).toNat t197) := ⟨_,rfl⟩
       rw [← hy199] at H
       have Ny199 := Aside0.mk hy199
       clear hy199
       have H' := Aside0.mk H
       clear H
       try go_wp2
       have n0_ := Aside0.mk (Kd.R_drew HO_6.out)
       have n1_ := Aside0.mk (q5q HB.out)
       clear HO_6
       clear HB
       have HO_6 := n0_
       have HB := n1_
       clear n0_ n1_
       have p195 : 0 ≤ (x17_1 : Int) := od
       have q195 : x17_1 < (x6_1.length : Int) := od
       obtain ⟨ad195,e195,hx195_0⟩ := Kd.at_int (Kd.R_reads' HO_6.out).2.2 x17_1 p195 q195
       cases e195
       replace p195 := eq_true p195
       replace q195 := eq_true q195
       refine start_ (n := 17) (S := fun w' => w'.cell? (ad195.add (x17_1).toNat) = some (.int .u32 (rd x6_1 x17_1))) (ds := [15]) #[false,false,false,false,false,false,false,false,false,false,false,false,false,false,false,false,false] (by kernel_rfl) rfl rfl (hx195_0) (fun hHeld => ?_); refine qTo q1s.tab8 q1s.bits8 (fun HT_ HW_ => ?_)
       generalize wr.drew = w14 at HO_6 HB hx195_0 hHeld ⊢
       refine qBq (i := 0) (N := some 21) (v := ?_) (a' := ?_) #[true,false,false,false,false,false,false,false,false,false,false,false,false,false,false,false,false] rfl rfl (q7h HT_.out (by kernel_rfl)) (fun _ _ _ h => h) (Or.inl ⟨by rfl,?_⟩) ?_ ?_
       rotate_left
       ·intro w'
        go_simp
        with_reducible rfl
       rotate_left
       ·simp only [Act.put,List.setIfInBounds_toArray,List.set_cons_zero,List.set_cons_succ,q4i,q9b]
        rfl
       refine qBq (i := 1) (N := some 22) (v := ?_) (a' := ?_) #[true,true,false,false,false,false,false,false,false,false,false,false,false,false,false,false,false] rfl rfl (q7h HT_.out (by kernel_rfl)) (fun _ _ _ h => h) (Or.inl ⟨by rfl,?_⟩) ?_ ?_
       rotate_left
       ·intro w'
        go_simp
        with_reducible rfl
       rotate_left
       ·simp only [Act.put,List.setIfInBounds_toArray,List.set_cons_zero,List.set_cons_succ,q4i,q9b]
        rfl
       refine qBq (i := 2) (N := some 23) (v := ?_) (a' := ?_) #[true,true,true,false,false,false,false,false,false,false,false,false,false,false,false,false,false] rfl rfl (q7h HT_.out (by kernel_rfl)) (fun _ _ _ h => h) (Or.inl ⟨by rfl,?_⟩) ?_ ?_
       rotate_left
       ·intro w'
        go_simp
        with_reducible rfl
       rotate_left
       ·simp only [Act.put,List.setIfInBounds_toArray,List.set_cons_zero,List.set_cons_succ,q4i,q9b]
        rfl
       refine qBq (i := 3) (N := some 24) (v := ?_) (a' := ?_) #[true,true,true,true,false,false,false,false,false,false,false,false,false,false,false,false,false] rfl rfl (q7h HT_.out (by kernel_rfl)) (fun _ _ _ h => h) (Or.inl ⟨by rfl,?_⟩) ?_ ?_
       rotate_left
       ·intro w'
        go_simp
        with_reducible rfl
       rotate_left
       ·simp only [Act.put,List.setIfInBounds_toArray,List.set_cons_zero,List.set_cons_succ,q4i,q9b]
        rfl
       refine qBq (i := 4) (N := some 25) (v := ?_) (a' := ?_) #[true,true,true,true,true,false,false,false,false,false,false,false,false,false,false,false,false] rfl rfl (q7h HT_.out (by kernel_rfl)) (fun _ _ _ h => h) (Or.inl ⟨by rfl,?_⟩) ?_ ?_
       rotate_left
       ·intro w'
        go_simp
        with_reducible rfl
       rotate_left
       ·simp only [Act.put,List.setIfInBounds_toArray,List.set_cons_zero,List.set_cons_succ,q4i,q9b]
        rfl
       refine qBq (i := 6) (N := some 27) (v := ?_) (a' := ?_) #[true,true,true,true,true,false,true,false,false,false,false,false,false,false,false,false,false] rfl rfl (q7h HT_.out (by kernel_rfl)) (fun _ _ _ h => h) (Or.inl ⟨by rfl,?_⟩) ?_ ?_
       rotate_left
       ·intro w'
        go_simp
        with_reducible rfl
       rotate_left
       ·simp only [Act.put,List.setIfInBounds_toArray,List.set_cons_zero,List.set_cons_succ,q4i,q9b]
        rfl
       refine qBq (i := 7) (N := some 28) (v := ?_) (a' := ?_) #[true,true,true,true,true,false,true,true,false,false,false,false,false,false,false,false,false] rfl rfl (q7h HT_.out (by kernel_rfl)) (fun _ _ _ h => h) (Or.inl ⟨by rfl,?_⟩) ?_ ?_
       rotate_left
       ·intro w'
        go_simp
        with_reducible rfl
       rotate_left
       ·simp only [Act.put,List.setIfInBounds_toArray,List.set_cons_zero,List.set_cons_succ,q4i,q9b]
        rfl
       refine qBq (i := 9) (N := some 30) (v := ?_) (a' := ?_) #[true,true,true,true,true,false,true,true,false,true,false,false,false,false,false,false,false] rfl rfl (q7h HT_.out (by kernel_rfl)) (fun _ _ _ h => h) (Or.inl ⟨by rfl,?_⟩) ?_ ?_
       rotate_left
       ·intro w'
        go_simp
        with_reducible rfl
       rotate_left
       ·simp only [Act.put,List.setIfInBounds_toArray,List.set_cons_zero,List.set_cons_succ,q4i,q9b]
        rfl
       refine take_ (i := 5) (N := some 26) (v := ?_) (a' := ?_) #[true,true,true,true,true,true,true,true,false,true,false,false,false,false,false,false,false] rfl rfl (qXc HT_.out HW_.out (by kernel_rfl)) (fun _ _ _ h => h) (Or.inl ⟨by rfl,?_⟩) hHeld ?_ ?_
       rotate_left
       ·intro w' s0
        go_simp
        with_reducible rfl
       rotate_left
       ·simp only [Act.put,List.setIfInBounds_toArray,List.set_cons_zero,List.set_cons_succ,q4i,q9b]
        rfl
       refine one_ (i := 8) (N := some 29) #[true,true,true,true,true,true,true,true,true,true,false,false,false,false,false,false,false] rfl rfl (qWg HT_.out (by kernel_rfl)) (by decide) (fun K hK => ?_)
       refine goes_ Tryz.func159 (by kernel_rfl) rfl #[.slice A1 l1.length c1,.int .i64 x17_1] (by rfl) rfl rfl (ml) ?_
       with_reducible refine (q8k.calls _ _ l1 x17_1 t196 _ ?side1 ?side2 A11.out).mono ?_
       (case side1 => exact cb HR1 HB)
       (case side2 => exact HC1.out)
       rintro e w' ⟨rfl,⟨nd,rfl⟩⟩
       refine ⟨_,rfl,?_⟩
       refine hK.out _ _ (hHeld) (fun hHeld => ?_)
       clear hK K
       refine norm_ (a' := ?_) ?_ ?_
       rotate_left
       ·show Act.put _ (some 29) _ = _
        simp only [Act.put,List.setIfInBounds_toArray,List.set_cons_zero,List.set_cons_succ,q4i,q9b]
        rfl
       refine one_ (i := 10) (N := some 31) #[true,true,true,true,true,true,true,true,true,true,true,false,false,false,false,false,false] rfl rfl (qWg HT_.out (by kernel_rfl)) (by decide) (fun K hK => ?_)
       refine goes_ Tryz.func160 (by kernel_rfl) rfl #[.int .u32 (rd x6_1 x17_1),.int .u32 t196,.int .u32 x7_1] (by rfl) rfl rfl (ml) ?_
       with_reducible refine (q5p.calls (rd x6_1 x17_1) t196 x7_1 t197 t198 _ A12.out).mono ?_
       rintro e w' ⟨rfl,⟨nd,rfl⟩⟩
       refine ⟨_,rfl,?_⟩
       have p13 : 0 ≤ (x17_1 : Int) := od
       have q13 : (x17_1 : Int) < ((x6_1.length : Int) : Int) := od
       obtain ⟨go13,co13,eo13,gb13,gl13,cl13,HG13⟩ := Kd.R_form HO_6.out (by omega)
       (cases eo13)
       have GB13 := Aside0.mk gb13
       have GG13 := Aside0.mk HG13
       clear gb13 gl13 HG13
       (simp only [q5l] at hx195_0)
       obtain ⟨hx13_0,hf13_0⟩ := Kd.R_celln 0 HO_6.out (x17_1 : Int) p13 q13
       replace p13 := eq_true p13
       replace q13 := eq_true q13
       have HP15 := Kd.R_putn HO_6.out (x17_1 : Int) t197
       rw [← Ny199.out] at HP15
       have HQ15 := Aside0.mk HP15
       clear HP15
       refine hK.out _ _ (hHeld) (fun hHeld => ?_)
       clear hK K
       refine norm_ (a' := ?_) ?_ ?_
       rotate_left
       ·show Act.put _ (some 31) _ = _
        simp only [Act.put,List.setIfInBounds_toArray,List.set_cons_zero,List.set_cons_succ,q4i,q9b]
        rfl
       refine qBq (i := 11) (N := some 20) (v := ?_) (a' := ?_) #[true,true,true,true,true,true,true,true,true,true,true,true,false,false,false,false,false] rfl rfl (q7h HT_.out (by kernel_rfl)) (fun _ _ _ h => h) (Or.inl ⟨by rfl,?_⟩) ?_ ?_
       rotate_left
       ·intro w'
        go_simp
        with_reducible rfl
       rotate_left
       ·simp only [Act.put,List.setIfInBounds_toArray,List.set_cons_zero,List.set_cons_succ,q4i,q9b]
        rfl
       refine qBq (i := 12) (N := some 32) (v := ?_) (a' := ?_) #[true,true,true,true,true,true,true,true,true,true,true,true,true,false,false,false,false] rfl rfl (q7h HT_.out (by kernel_rfl)) (fun _ _ _ h => h) (Or.inl ⟨by rfl,?_⟩) ?_ ?_
       rotate_left
       ·intro w'
        go_simp
        with_reducible rfl
       rotate_left
       ·simp only [Act.put,List.setIfInBounds_toArray,List.set_cons_zero,List.set_cons_succ,q4i,q9b]
        rfl
       refine qBq (i := 13) (N := some 33) (v := ?_) (a' := ?_) #[true,true,true,true,true,true,true,true,true,true,true,true,true,true,false,false,false] rfl rfl (q7h HT_.out (by kernel_rfl)) (fun _ _ _ h => h) (Or.inl ⟨by rfl,?_⟩) ?_ ?_
       rotate_left
       ·intro w'
        go_simp
        with_reducible rfl
       rotate_left
       ·simp only [Act.put,List.setIfInBounds_toArray,List.set_cons_zero,List.set_cons_succ,q4i,q9b]
        rfl
       refine qBq (i := 14) (N := some 34) (v := ?_) (a' := ?_) #[true,true,true,true,true,true,true,true,true,true,true,true,true,true,true,false,false] rfl rfl (q7h HT_.out (by kernel_rfl)) (fun _ _ _ h => h) (Or.inl ⟨by rfl,?_⟩) ?_ ?_
       rotate_left
       ·intro w'
        go_simp
        with_reducible rfl
       rotate_left
       ·simp only [Act.put,List.setIfInBounds_toArray,List.set_cons_zero,List.set_cons_succ,q4i,q9b]
        rfl
       refine last_ (i := 15) (N := none) #[true,true,true,true,true,true,true,true,true,true,true,true,true,true,true,true,false] rfl rfl (qWg HT_.out (by kernel_rfl)) (by decide) (fun K hK => ?_)
       refine skip_ (w1 := ?_) (by rfl) rfl ?_ ?_
       rotate_left
       ·go_simp
        rfl
       refine hK.out _ _ ?_
       clear hK K
       refine qBq (i := 16) (N := some 7) (v := ?_) (a' := ?_) #[true,true,true,true,true,true,true,true,true,true,true,true,true,true,true,true,true] rfl rfl (q7h HT_.out (by kernel_rfl)) (fun _ _ _ h => h) (Or.inl ⟨by rfl,?_⟩) ?_ ?_
       rotate_left
       ·intro w'
        go_simp
        with_reducible rfl
       rotate_left
       ·simp only [Act.put,List.setIfInBounds_toArray,List.set_cons_zero,List.set_cons_succ,q4i,q9b]
        rfl
       refine done_ (j4h HT_.out (by kernel_rfl)) ?_
       try go_wp2
       (try simp only [← hl6_1])
       go_roundg k1
       case measure => have := HK1.out; omega
       case rel => exact ⟨(y199),(t198),(wrap64 (x17_1 + 1)),(by rfl),(by rfl),H',⟨by have := HK1.out; omega⟩,⟨by (try simp only [hl6_1]); (with_reducible repeat (apply Kd.R_drew)); exact HQ15.out⟩,⟨hb1 HB GB13⟩⟩
      ·rw [if_neg c10] at H
       cases H
     ·rw [if_neg c9] at H
      cases H
    ·rw [if_neg c8] at H
     have c8b0 : decide (x17_1 < (t192.length : Int)) = false := decide_eq_false c8
     (try simp only [hl6_1] at c8b0)
     obtain ⟨t200,A160,H⟩ := bs H
     have A16 := Aside0.mk A160
     clear A160
     simp only [Option.some.injEq,Prod.mk.injEq] at H
     obtain ⟨rfl,rfl⟩ := H
     go_wp2_with (((with_reducible refine q0b (f := 133) rfl ?_); refine q0u (some 37) rfl rfl Tryz.func133 (by kernel_rfl) rfl #[.slice Ao7 x6_1.length co7] rfl (ml) ?_; (with_reducible refine (q1a.calls k1 _ _ x6_1 t200 _ ?side1 ?side2 A16.out).mono ?_); (case side1 => exact cr HO_6); (case side2 => exact (Kd.R_reads' HO_6.out).2.1); rintro e w17 ⟨v201,rfl,ho0,hb⟩; refine ⟨_,rfl,?_⟩; have HO202 := Aside0.mk (Kd.R_lower (Kd.R_new' ho0 (Kd.R_lt (rm HO_6))) (q0e (hb0 HB))); replace HO_6 := Aside0.mk (Kd.R_elder' (rm HO_6) (Kd.R_base ho0) hb); replace HB := Aside0.mk (q0h (hb0 HB) hb)))
     go_ret2
     exact ⟨_,by rfl,by (with_reducible repeat (apply Kd.R_drew)); exact Kd.R_mono HO202.out (fun _ hk => trivial),hb0 HB⟩
def q4d.f (a0 : Int) : Option (Int) := if a0 ≥ 65536 then (if (a0 / 65536) ≥ 256 then (if 0 ≤ (((a0 / 65536) / 256) % 256) then (if (((a0 / 65536) / 256) % 256) < 256 then (some (wrap64 ((16 + 8) + (wrap64 (bt (⟨#[0,1,2,2,3,3,3,3,4,4,4,4,4,4,4,4,5,5,5,5,5,5,5,5,5,5,5,5,5,5,5,5,6,6,6,6,6,6,6,6,6,6,6,6,6,6,6,6,6,6,6,6,6,6,6,6,6,6,6,6,6,6,6,6,7,7,7,7,7,7,7,7,7,7,7,7,7,7,7,7,7,7,7,7,7,7,7,7,7,7,7,7,7,7,7,7,7,7,7,7,7,7,7,7,7,7,7,7,7,7,7,7,7,7,7,7,7,7,7,7,7,7,7,7,7,7,7,7,8,8,8,8,8,8,8,8,8,8,8,8,8,8,8,8,8,8,8,8,8,8,8,8,8,8,8,8,8,8,8,8,8,8,8,8,8,8,8,8,8,8,8,8,8,8,8,8,8,8,8,8,8,8,8,8,8,8,8,8,8,8,8,8,8,8,8,8,8,8,8,8,8,8,8,8,8,8,8,8,8,8,8,8,8,8,8,8,8,8,8,8,8,8,8,8,8,8,8,8,8,8,8,8,8,8,8,8,8,8,8,8,8,8,8,8,8,8,8,8,8,8,8,8,8,8,8,8]⟩ : ByteArray) (((a0 / 65536) / 256) % 256)))))) else (none)) else (none)) else (if 0 ≤ ((a0 / 65536) % 256) then (if ((a0 / 65536) % 256) < 256 then (some (wrap64 (16 + (wrap64 (bt (⟨#[0,1,2,2,3,3,3,3,4,4,4,4,4,4,4,4,5,5,5,5,5,5,5,5,5,5,5,5,5,5,5,5,6,6,6,6,6,6,6,6,6,6,6,6,6,6,6,6,6,6,6,6,6,6,6,6,6,6,6,6,6,6,6,6,7,7,7,7,7,7,7,7,7,7,7,7,7,7,7,7,7,7,7,7,7,7,7,7,7,7,7,7,7,7,7,7,7,7,7,7,7,7,7,7,7,7,7,7,7,7,7,7,7,7,7,7,7,7,7,7,7,7,7,7,7,7,7,7,8,8,8,8,8,8,8,8,8,8,8,8,8,8,8,8,8,8,8,8,8,8,8,8,8,8,8,8,8,8,8,8,8,8,8,8,8,8,8,8,8,8,8,8,8,8,8,8,8,8,8,8,8,8,8,8,8,8,8,8,8,8,8,8,8,8,8,8,8,8,8,8,8,8,8,8,8,8,8,8,8,8,8,8,8,8,8,8,8,8,8,8,8,8,8,8,8,8,8,8,8,8,8,8,8,8,8,8,8,8,8,8,8,8,8,8,8,8,8,8,8,8,8,8,8,8,8,8]⟩ : ByteArray) ((a0 / 65536) % 256)))))) else (none)) else (none))) else (if a0 ≥ 256 then (if 0 ≤ ((a0 / 256) % 256) then (if ((a0 / 256) % 256) < 256 then (some (wrap64 ((0 + 8) + (wrap64 (bt (⟨#[0,1,2,2,3,3,3,3,4,4,4,4,4,4,4,4,5,5,5,5,5,5,5,5,5,5,5,5,5,5,5,5,6,6,6,6,6,6,6,6,6,6,6,6,6,6,6,6,6,6,6,6,6,6,6,6,6,6,6,6,6,6,6,6,7,7,7,7,7,7,7,7,7,7,7,7,7,7,7,7,7,7,7,7,7,7,7,7,7,7,7,7,7,7,7,7,7,7,7,7,7,7,7,7,7,7,7,7,7,7,7,7,7,7,7,7,7,7,7,7,7,7,7,7,7,7,7,7,8,8,8,8,8,8,8,8,8,8,8,8,8,8,8,8,8,8,8,8,8,8,8,8,8,8,8,8,8,8,8,8,8,8,8,8,8,8,8,8,8,8,8,8,8,8,8,8,8,8,8,8,8,8,8,8,8,8,8,8,8,8,8,8,8,8,8,8,8,8,8,8,8,8,8,8,8,8,8,8,8,8,8,8,8,8,8,8,8,8,8,8,8,8,8,8,8,8,8,8,8,8,8,8,8,8,8,8,8,8,8,8,8,8,8,8,8,8,8,8,8,8,8,8,8,8,8,8]⟩ : ByteArray) ((a0 / 256) % 256)))))) else (none)) else (none)) else (if 0 ≤ ((a0) % 256) then (if ((a0) % 256) < 256 then (some (wrap64 (0 + (wrap64 (bt (⟨#[0,1,2,2,3,3,3,3,4,4,4,4,4,4,4,4,5,5,5,5,5,5,5,5,5,5,5,5,5,5,5,5,6,6,6,6,6,6,6,6,6,6,6,6,6,6,6,6,6,6,6,6,6,6,6,6,6,6,6,6,6,6,6,6,7,7,7,7,7,7,7,7,7,7,7,7,7,7,7,7,7,7,7,7,7,7,7,7,7,7,7,7,7,7,7,7,7,7,7,7,7,7,7,7,7,7,7,7,7,7,7,7,7,7,7,7,7,7,7,7,7,7,7,7,7,7,7,7,8,8,8,8,8,8,8,8,8,8,8,8,8,8,8,8,8,8,8,8,8,8,8,8,8,8,8,8,8,8,8,8,8,8,8,8,8,8,8,8,8,8,8,8,8,8,8,8,8,8,8,8,8,8,8,8,8,8,8,8,8,8,8,8,8,8,8,8,8,8,8,8,8,8,8,8,8,8,8,8,8,8,8,8,8,8,8,8,8,8,8,8,8,8,8,8,8,8,8,8,8,8,8,8,8,8,8,8,8,8,8,8,8,8,8,8,8,8,8,8,8,8,8,8,8,8,8,8]⟩ : ByteArray) ((a0) % 256)))))) else (none)) else (none)))
theorem q4d.calls (a0 : Int) (r : Int) (w : World) (h : q4d.f a0 = some r) :
  Calls Tryz.prog 161 #[.int .u32 a0] w fun e w' => e = .returned (.int .i64 r) ∧ q0s w w' := by
 have H := h
 unfold q4d.f at H
 clear h
 by_cases c2 : a0 ≥ 65536
 ·rw [if_pos c2] at H
  have c2b0 : decide (65536 ≤ a0) = true := decide_eq_true c2
  clear c2
  by_cases c3 : (a0 / 65536) ≥ 256
  ·rw [if_pos c3] at H
   have c3b0 : decide (256 ≤ (a0 / 65536)) = true := decide_eq_true c3
   clear c3
   obtain ⟨ji4,hji4⟩ : ∃ j_ : Int,(((a0 / 65536) / 256) % 256) = j_ := ⟨_,rfl⟩
   rw [hji4] at H
   by_cases c5 : 0 ≤ (ji4)
   ·rw [if_pos c5] at H
    have c5b0 : decide (0 ≤ (ji4)) = true := decide_eq_true c5
    clear c5
    by_cases c6 : (ji4) < 256
    ·rw [if_pos c6] at H
     have c6b0 : decide ((ji4) < 256) = true := decide_eq_true c6
     clear c6
     obtain rfl := Option.some.inj H
     have p7 : 0 ≤ ((ji4) : Int) := od
     have q7 : (ji4) < (256 : Int) := od
     have hx7 := qZr (⟨#[0,1,2,2,3,3,3,3,4,4,4,4,4,4,4,4,5,5,5,5,5,5,5,5,5,5,5,5,5,5,5,5,6,6,6,6,6,6,6,6,6,6,6,6,6,6,6,6,6,6,6,6,6,6,6,6,6,6,6,6,6,6,6,6,7,7,7,7,7,7,7,7,7,7,7,7,7,7,7,7,7,7,7,7,7,7,7,7,7,7,7,7,7,7,7,7,7,7,7,7,7,7,7,7,7,7,7,7,7,7,7,7,7,7,7,7,7,7,7,7,7,7,7,7,7,7,7,7,8,8,8,8,8,8,8,8,8,8,8,8,8,8,8,8,8,8,8,8,8,8,8,8,8,8,8,8,8,8,8,8,8,8,8,8,8,8,8,8,8,8,8,8,8,8,8,8,8,8,8,8,8,8,8,8,8,8,8,8,8,8,8,8,8,8,8,8,8,8,8,8,8,8,8,8,8,8,8,8,8,8,8,8,8,8,8,8,8,8,8,8,8,8,8,8,8,8,8,8,8,8,8,8,8,8,8,8,8,8,8,8,8,8,8,8,8,8,8,8,8,8,8,8,8,8,8,8]⟩ : ByteArray) (ji4)
     replace p7 := eq_true p7
     replace q7 := eq_true q7
     go_enter Tryz.func161,Tryz.ntmps161
     go_wp2
     go_ret
     exact ⟨by rfl,by repeat (exact q0s.refl _)⟩
    ·rw [if_neg c6] at H
     cases H
   ·rw [if_neg c5] at H
    cases H
  ·rw [if_neg c3] at H
   have c3b0 : decide (256 ≤ (a0 / 65536)) = false := decide_eq_false c3
   clear c3
   obtain ⟨ji8,hji8⟩ : ∃ j_ : Int,((a0 / 65536) % 256) = j_ := ⟨_,rfl⟩
   rw [hji8] at H
   by_cases c9 : 0 ≤ (ji8)
   ·rw [if_pos c9] at H
    have c9b0 : decide (0 ≤ (ji8)) = true := decide_eq_true c9
    clear c9
    by_cases c10 : (ji8) < 256
    ·rw [if_pos c10] at H
     have c10b0 : decide ((ji8) < 256) = true := decide_eq_true c10
     clear c10
     obtain rfl := Option.some.inj H
     have p11 : 0 ≤ ((ji8) : Int) := od
     have q11 : (ji8) < (256 : Int) := od
     have hx11 := qZr (⟨#[0,1,2,2,3,3,3,3,4,4,4,4,4,4,4,4,5,5,5,5,5,5,5,5,5,5,5,5,5,5,5,5,6,6,6,6,6,6,6,6,6,6,6,6,6,6,6,6,6,6,6,6,6,6,6,6,6,6,6,6,6,6,6,6,7,7,7,7,7,7,7,7,7,7,7,7,7,7,7,7,7,7,7,7,7,7,7,7,7,7,7,7,7,7,7,7,7,7,7,7,7,7,7,7,7,7,7,7,7,7,7,7,7,7,7,7,7,7,7,7,7,7,7,7,7,7,7,7,8,8,8,8,8,8,8,8,8,8,8,8,8,8,8,8,8,8,8,8,8,8,8,8,8,8,8,8,8,8,8,8,8,8,8,8,8,8,8,8,8,8,8,8,8,8,8,8,8,8,8,8,8,8,8,8,8,8,8,8,8,8,8,8,8,8,8,8,8,8,8,8,8,8,8,8,8,8,8,8,8,8,8,8,8,8,8,8,8,8,8,8,8,8,8,8,8,8,8,8,8,8,8,8,8,8,8,8,8,8,8,8,8,8,8,8,8,8,8,8,8,8,8,8,8,8,8,8]⟩ : ByteArray) (ji8)
     replace p11 := eq_true p11
     replace q11 := eq_true q11
     go_enter Tryz.func161,Tryz.ntmps161
     go_wp2
     go_ret
     exact ⟨by rfl,by repeat (exact q0s.refl _)⟩
    ·rw [if_neg c10] at H
     cases H
   ·rw [if_neg c9] at H
    cases H
 ·rw [if_neg c2] at H
  have c2b0 : decide (65536 ≤ a0) = false := decide_eq_false c2
  clear c2
  by_cases c12 : a0 ≥ 256
  ·rw [if_pos c12] at H
   have c12b0 : decide (256 ≤ a0) = true := decide_eq_true c12
   clear c12
   obtain ⟨ji13,hji13⟩ : ∃ j_ : Int,((a0 / 256) % 256) = j_ := ⟨_,rfl⟩
   rw [hji13] at H
   by_cases c14 : 0 ≤ (ji13)
   ·rw [if_pos c14] at H
    have c14b0 : decide (0 ≤ (ji13)) = true := decide_eq_true c14
    clear c14
    by_cases c15 : (ji13) < 256
    ·rw [if_pos c15] at H
     have c15b0 : decide ((ji13) < 256) = true := decide_eq_true c15
     clear c15
     obtain rfl := Option.some.inj H
     have p16 : 0 ≤ ((ji13) : Int) := od
     have q16 : (ji13) < (256 : Int) := od
     have hx16 := qZr (⟨#[0,1,2,2,3,3,3,3,4,4,4,4,4,4,4,4,5,5,5,5,5,5,5,5,5,5,5,5,5,5,5,5,6,6,6,6,6,6,6,6,6,6,6,6,6,6,6,6,6,6,6,6,6,6,6,6,6,6,6,6,6,6,6,6,7,7,7,7,7,7,7,7,7,7,7,7,7,7,7,7,7,7,7,7,7,7,7,7,7,7,7,7,7,7,7,7,7,7,7,7,7,7,7,7,7,7,7,7,7,7,7,7,7,7,7,7,7,7,7,7,7,7,7,7,7,7,7,7,8,8,8,8,8,8,8,8,8,8,8,8,8,8,8,8,8,8,8,8,8,8,8,8,8,8,8,8,8,8,8,8,8,8,8,8,8,8,8,8,8,8,8,8,8,8,8,8,8,8,8,8,8,8,8,8,8,8,8,8,8,8,8,8,8,8,8,8,8,8,8,8,8,8,8,8,8,8,8,8,8,8,8,8,8,8,8,8,8,8,8,8,8,8,8,8,8,8,8,8,8,8,8,8,8,8,8,8,8,8,8,8,8,8,8,8,8,8,8,8,8,8,8,8,8,8,8,8]⟩ : ByteArray) (ji13)
     replace p16 := eq_true p16
     replace q16 := eq_true q16
     go_enter Tryz.func161,Tryz.ntmps161
     go_wp2
     go_ret
     exact ⟨by rfl,by repeat (exact q0s.refl _)⟩
    ·rw [if_neg c15] at H
     cases H
   ·rw [if_neg c14] at H
    cases H
  ·rw [if_neg c12] at H
   have c12b0 : decide (256 ≤ a0) = false := decide_eq_false c12
   clear c12
   obtain ⟨ji17,hji17⟩ : ∃ j_ : Int,((a0) % 256) = j_ := ⟨_,rfl⟩
   rw [hji17] at H
   by_cases c18 : 0 ≤ (ji17)
   ·rw [if_pos c18] at H
    have c18b0 : decide (0 ≤ (ji17)) = true := decide_eq_true c18
    clear c18
    by_cases c19 : (ji17) < 256
    ·rw [if_pos c19] at H
     have c19b0 : decide ((ji17) < 256) = true := decide_eq_true c19
     clear c19
     obtain rfl := Option.some.inj H
     have p20 : 0 ≤ ((ji17) : Int) := od
     have q20 : (ji17) < (256 : Int) := od
     have hx20 := qZr (⟨#[0,1,2,2,3,3,3,3,4,4,4,4,4,4,4,4,5,5,5,5,5,5,5,5,5,5,5,5,5,5,5,5,6,6,6,6,6,6,6,6,6,6,6,6,6,6,6,6,6,6,6,6,6,6,6,6,6,6,6,6,6,6,6,6,7,7,7,7,7,7,7,7,7,7,7,7,7,7,7,7,7,7,7,7,7,7,7,7,7,7,7,7,7,7,7,7,7,7,7,7,7,7,7,7,7,7,7,7,7,7,7,7,7,7,7,7,7,7,7,7,7,7,7,7,7,7,7,7,8,8,8,8,8,8,8,8,8,8,8,8,8,8,8,8,8,8,8,8,8,8,8,8,8,8,8,8,8,8,8,8,8,8,8,8,8,8,8,8,8,8,8,8,8,8,8,8,8,8,8,8,8,8,8,8,8,8,8,8,8,8,8,8,8,8,8,8,8,8,8,8,8,8,8,8,8,8,8,8,8,8,8,8,8,8,8,8,8,8,8,8,8,8,8,8,8,8,8,8,8,8,8,8,8,8,8,8,8,8,8,8,8,8,8,8,8,8,8,8,8,8,8,8,8,8,8,8]⟩ : ByteArray) (ji17)
     replace p20 := eq_true p20
     replace q20 := eq_true q20
     go_enter Tryz.func161,Tryz.ntmps161
     go_wp2
     go_ret
     exact ⟨by rfl,by repeat (exact q0s.refl _)⟩
    ·rw [if_neg c19] at H
     cases H
   ·rw [if_neg c18] at H
    cases H
def q2c.f (a0 : Int) : Option (Int) := (q4d.f a0).bind fun t107 => (some (wrap64 (32 - t107)))
theorem q2c.calls (a0 : Int) (r : Int) (w : World) (h : q2c.f a0 = some r) :
  Calls Tryz.prog 154 #[.int .u32 a0] w fun e w' => e = .returned (.int .i64 r) ∧ q0s w w' := by
 have H := h
 unfold q2c.f at H
 clear h
 obtain ⟨t107,A20,H⟩ := bs H
 have A2 := Aside0.mk A20
 clear A20
 obtain rfl := Option.some.inj H
 go_enter Tryz.func154,Tryz.ntmps154
 go_wp2_with (((with_reducible refine q0b (f := 161) rfl ?_); refine q0u (some 4) rfl rfl Tryz.func161 (by kernel_rfl) rfl #[.int .u32 a0] rfl (ml) ?_; (with_reducible refine (q4d.calls a0 t107 _ A2.out).mono ?_); rintro e w' ⟨rfl,⟨nd,rfl⟩⟩; refine ⟨_,rfl,?_⟩))
 go_ret
 exact ⟨by rfl,by repeat (first | exact q0s.refl _ | apply q0s.step)⟩
mutual
def q1k.l0 : Nat → List Int → List Int → List Int → Int → Int → Option (List Int)
 | 0,_,_,_,_,_ => none
 | k + 1,x1,x5,x21,x22,x23 => if x23 < x22 then (if 0 ≤ x23 then (if x23 < (x21.length : Int) then (if 0 ≤ (wrap64 ((x1.length : Int) + 1)) then (if (wrap64 ((x1.length : Int) + 1) : Int).toNat ≤ 70368744177664 then ((some (List.replicate (wrap64 ((x1.length : Int) + 1) : Int).toNat 0 : List Int)).bind fun y121 => (if x23 ≤ (x5.length : Int) then (q1k.l1 k x1 x5 x23 (rd x21 x23) (splice y121 0 (x5.drop (x23 : Int).toNat)) 0 x21 x22 x23 (y121.length : Int) 0) else (none))) else (none)) else (none)) else (none)) else (none)) else ((q1a.f k x5).bind fun t117 => (some t117))
def q1k.l1 : Nat → List Int → List Int → Int → Int → List Int → Int → List Int → Int → Int → Int → Int → Option (List Int)
 | 0,_,_,_,_,_,_,_,_,_,_,_ => none
 | k + 1,x1,x5,x6,x7,x8,x9,x21,x22,x23,x38,x39 => if x39 < x38 then (if x39 < (x1.length : Int) then (if 0 ≤ x39 then (if x39 < (x8.length : Int) then (q1k.l1 k x1 x5 x6 x7 (x8.set (x39 : Int).toNat ((IntKind.u64.wrap ((IntKind.u64.wrap (x9 + (IntKind.u64.wrap ((IntKind.u64.wrap (x7)) * (IntKind.u64.wrap (rd x1 x39)))))) + (IntKind.u64.wrap (rd x8 x39)))) % 4294967296)) ((IntKind.u64.wrap ((IntKind.u64.wrap (x9 + (IntKind.u64.wrap ((IntKind.u64.wrap (x7)) * (IntKind.u64.wrap (rd x1 x39)))))) + (IntKind.u64.wrap (rd x8 x39)))) / 4294967296) x21 x22 x23 x38 (wrap64 (x39 + 1))) else (none)) else (none)) else (if 0 ≤ x39 then (if x39 < (x8.length : Int) then (q1k.l1 k x1 x5 x6 x7 (x8.set (x39 : Int).toNat ((IntKind.u64.wrap (x9 + (IntKind.u64.wrap (rd x8 x39)))) % 4294967296)) ((IntKind.u64.wrap (x9 + (IntKind.u64.wrap (rd x8 x39)))) / 4294967296) x21 x22 x23 x38 (wrap64 (x39 + 1))) else (none)) else (none))) else (if 0 ≤ x6 then (if x6 ≤ (x5.length : Int) then (q1k.l0 k x1 (splice x5 (x6 : Int).toNat x8) x21 x22 (wrap64 (x23 + 1))) else (none)) else (none))
end
def q1k.f (k : Nat) (l0 : List Int) (l1 : List Int) : Option (List Int) := (q1a.f k l0).bind fun t108 => ((q1a.f k l1).bind fun t111 => (if 0 ≤ (wrap64 ((t108.length : Int) + (t111.length : Int))) then (if (wrap64 ((t108.length : Int) + (t111.length : Int)) : Int).toNat ≤ 70368744177664 then (q1k.l0 k t111 (List.replicate (wrap64 ((t108.length : Int) + (t111.length : Int)) : Int).toNat 0) t108 (t108.length : Int) 0) else (none)) else (none)))
theorem q1k.calls (k : Nat) (A0 : Option Addr) (c0 : Nat) (l0 : List Int) (A1 : Option Addr) (c1 : Nat) (l1 : List Int) (r : List Int) (w : World) (hr0 : Kd.C (Kd.int .u32) w A0 l0.length l0) (hc0 : l0.length ≤ c0) (hr1 : Kd.C (Kd.int .u32) w A1 l1.length l1) (hc1 : l1.length ≤ c1) (h : q1k.f k l0 l1 = some r) :
  Calls Tryz.prog 122 #[.slice A0 l0.length c0,.slice A1 l1.length c1] w fun e w' => ∃ v0_ : Value,e = .returned (v0_) ∧ Kd.R (Kd.int .u32) 88 w' w.heap.size (fun _ => True) v0_ r ∧ Below w.heap.size w w' := by
 have HR0 := Aside0.mk hr0
 have HC0 := Aside0.mk hc0
 clear hr0 hc0
 have HR1 := Aside0.mk hr1
 have HC1 := Aside0.mk hc1
 clear hr1 hc1
 have HB := Aside0.mk (Below.refl w.heap.size w)
 have H := h
 unfold q1k.f at H
 clear h
 obtain ⟨t108,A30,H⟩ := bs H
 have A3 := Aside0.mk A30
 clear A30
 obtain ⟨t111,A40,H⟩ := bs H
 have A4 := Aside0.mk A40
 clear A40
 obtain ⟨ji5,hji5⟩ : ∃ j_ : Int,(wrap64 ((t108.length : Int) + (t111.length : Int))) = j_ := ⟨_,rfl⟩
 rw [hji5] at H
 (try rw [hji5] at A3)
 (try rw [hji5] at A4)
 have hji5w : (IntKind.i64.wrap ((t108.length : Int) + (t111.length : Int))) = ji5 := (q4i _).trans hji5
 by_cases c6 : 0 ≤ (ji5)
 ·rw [if_pos c6] at H
  have c6b0 := eq_true c6
  have c6b1 : decide (0 ≤ (ji5)) = true := decide_eq_true c6
  by_cases c7 : (ji5 : Int).toNat ≤ 70368744177664
  ·rw [if_pos c7] at H
   have c7b0 := eq_true c7
   have c7b1 : decide ((ji5 : Int).toNat ≤ 70368744177664) = true := decide_eq_true c7
   obtain ⟨y114,hy114⟩ : ∃ y_ : List Int,y_ = (List.replicate (ji5 : Int).toNat 0) := ⟨_,rfl⟩
   rw [← hy114] at H
   have Ny114 := Aside0.mk hy114
   clear hy114
   have H' := Aside0.mk H
   clear H
   go_enter Tryz.func122,Tryz.ntmps122
   go_wp2_with (first | ((with_reducible refine q0b (f := 133) rfl ?_); refine q0u (some 12) rfl rfl Tryz.func133 (by kernel_rfl) rfl #[.slice A0 l0.length c0] rfl (ml) ?_; (with_reducible refine (q1a.calls k _ _ l0 t108 _ ?side1 ?side2 A3.out).mono ?_); (case side1 => repeat (exact HR0.out)); (case side2 => exact HC0.out); rintro e w8 ⟨v109,rfl,ho0,hb⟩; refine ⟨_,rfl,?_⟩; have HO110 := Aside0.mk (Kd.R_lower ho0 (q0e (hb0 HB))); replace HB := Aside0.mk (q0h (hb0 HB) hb)) | ((with_reducible refine q0b (f := 133) rfl ?_); refine q0u (some 14) rfl rfl Tryz.func133 (by kernel_rfl) rfl #[.slice A1 l1.length c1] rfl (ml) ?_; (with_reducible refine (q1a.calls k _ _ l1 t111 _ ?side1 ?side2 A4.out).mono ?_); (case side1 => exact cb HR1 HB); (case side2 => exact HC1.out); rintro e w9 ⟨v112,rfl,ho0,hb⟩; refine ⟨_,rfl,?_⟩; have HO113 := Aside0.mk (Kd.R_lower (Kd.R_new' ho0 (Kd.R_lt (rm HO110))) (q0e (hb0 HB))); replace HO110 := Aside0.mk (Kd.R_elder' (rm HO110) (Kd.R_base ho0) hb); replace HB := Aside0.mk (q0h (hb0 HB) hb); obtain ⟨Ao10,co10,eo10⟩ := Kd.R_slice HO110.out; subst eo10; obtain ⟨Ao11,co11,eo11⟩ := Kd.R_slice HO113.out; subst eo11) | ((with_reducible refine q3b (N := 20) rfl ?_); refine Kd.R_make (Kd.int .u32) _ 88 rfl (N := 20) rfl 43 _ _ rfl ji5 rfl rfl Tryz.underlying43 (.int .u32 0) 4 q3a rfl (by decide) (by omega) 0 (ok := fun _ => True) (okp := fun _ => True) rfl (fun _ hk => hk) trivial (od) (Nat.le_trans (Nat.mul_le_mul_right _ (od : ji5.toNat ≤ 70368744177664)) (by omega)) (Below.refl _ _) (Nat.le_refl _) ?_; intro v115 w12 ho13 hb hg_ hnew_; clear hg_ hnew_; (rw [← Ny114.out] at ho13); have HO116 := Aside0.mk (Kd.R_lower (Kd.R_new' (Kd.R_new' ho13 (Kd.R_lt (rm HO110))) (Kd.R_lt (rm HO113))) (q0e (hb0 HB))); replace HO110 := Aside0.mk (Kd.R_elder' (rm HO110) (Kd.R_base ho13) hb); replace HO113 := Aside0.mk (Kd.R_elder' (rm HO113) (Kd.R_base ho13) hb); replace HB := Aside0.mk (q0h (hb0 HB) hb); clear hb ho13))
   go_loopg [23] k (fun kq v23 w' => ∃ (x1_1 : List Int) (x5_1 : List Int) (x21_1 : List Int) (x23_1 : Int),v23 = .int .i64 x23_1 ∧ Aside0 (q1k.l0 kq x1_1 x5_1 x21_1 (t108.length : Int) x23_1 = some r) ∧ Aside0 (kq ≤ k) ∧ Aside0 (Kd.R (Kd.int .u32) 88 w' w.heap.size (fun k_ => some k_ ≠ (v115 : Value).ownBlock ∧ some k_ ≠ ((.slice Ao10 t108.length co10) : Value).ownBlock) (.slice Ao11 t111.length co11) x1_1) ∧ Aside0 (Kd.R (Kd.int .u32) 88 w' w.heap.size (fun k_ => some k_ ≠ ((.slice Ao11 t111.length co11) : Value).ownBlock ∧ some k_ ≠ ((.slice Ao10 t108.length co10) : Value).ownBlock) v115 x5_1) ∧ Aside0 (Kd.R (Kd.int .u32) 88 w' w.heap.size (fun k_ => some k_ ≠ ((.slice Ao11 t111.length co11) : Value).ownBlock ∧ some k_ ≠ (v115 : Value).ownBlock) (.slice Ao10 t108.length co10) x21_1) ∧ Aside0 (Below w.heap.size w w'))
   case atStart => exact ⟨(t111),(y114),(t108),(0),(by rfl),H',⟨Nat.le_refl _⟩,⟨by (with_reducible repeat (apply Kd.R_drew)); exact Kd.R_mono HO113.out (fun _ hk => ⟨hk.2,hk.1.2⟩)⟩,⟨by (with_reducible repeat (apply Kd.R_drew)); exact Kd.R_mono HO116.out (fun _ hk => ⟨hk.2,hk.1.2⟩)⟩,⟨by (with_reducible repeat (apply Kd.R_drew)); exact Kd.R_mono HO110.out (fun _ hk => ⟨hk.1.2,hk.2⟩)⟩,⟨hb0 HB⟩⟩
   case round =>
    clear H'
    obtain ⟨x1_1,x5_1,x21_1,x23_1,rfl,HA,HK1,HO_1,HO_5,HO_21,HB⟩ := hrel
    have hl1_1 := (Kd.R_reads' HO_1.out).1
    rw [hl1_1] at HO_1
    (try simp only [hl1_1])
    (try simp only [hl1_1] at HO_5)
    (try simp only [hl1_1] at HO_21)
    have hl21_1 := (Kd.R_reads' HO_21.out).1
    rw [hl21_1] at HO_21
    (try simp only [hl21_1])
    (try simp only [hl21_1] at HO_1)
    (try simp only [hl21_1] at HO_5)
    cases gk with
    | zero => exact absurd HA.out (by simp [q1k.l0])
    | succ k1 =>
     have H := HA.out
     clear HA
     simp only [q1k.l0] at H
     by_cases c14 : x23_1 < (t108.length : Int)
     ·rw [if_pos c14] at H
      have c14b0 : decide (x23_1 < (t108.length : Int)) = true := decide_eq_true c14
      (try simp only [hl1_1,hl21_1] at c14b0)
      by_cases c15 : 0 ≤ x23_1
      ·rw [if_pos c15] at H
       have c15b0 : decide (0 ≤ x23_1) = true := decide_eq_true c15
       by_cases c16 : x23_1 < (x21_1.length : Int)
       ·rw [if_pos c16] at H
        have c16b0 : decide (x23_1 < (x21_1.length : Int)) = true := decide_eq_true c16
        (try simp only [hl1_1,hl21_1] at c16b0)
        obtain ⟨ji17,hji17⟩ : ∃ j_ : Int,(wrap64 ((x1_1.length : Int) + 1)) = j_ := ⟨_,rfl⟩
        rw [hji17] at H
        have hji17w : (IntKind.i64.wrap ((x1_1.length : Int) + 1)) = ji17 := (q4i _).trans hji17
        by_cases c18 : 0 ≤ (ji17)
        ·rw [if_pos c18] at H
         have c18b0 := eq_true c18
         have c18b1 : decide (0 ≤ (ji17)) = true := decide_eq_true c18
         by_cases c19 : (ji17 : Int).toNat ≤ 70368744177664
         ·rw [if_pos c19] at H
          have c19b0 := eq_true c19
          have c19b1 : decide ((ji17 : Int).toNat ≤ 70368744177664) = true := decide_eq_true c19
          obtain ⟨y121,hy121⟩ : ∃ y_ : List Int,y_ = (List.replicate (ji17 : Int).toNat 0) := ⟨_,rfl⟩
          replace H : (if x23_1 ≤ (x5_1.length : Int) then (q1k.l1 k1 x1_1 x5_1 x23_1 (rd x21_1 x23_1) (splice y121 0 (x5_1.drop (x23_1 : Int).toNat)) 0 x21_1 (t108.length : Int) x23_1 (y121.length : Int) 0) else (none)) = some r := by (have H2_ := (Option.bind_some _ _).symm.trans H; rw [hy121]; with_reducible exact H2_)
          have Ny121 := Aside0.mk hy121
          clear hy121
          have c20b0 := eq_true (od : 0 ≤ x23_1)
          by_cases c21 : x23_1 ≤ (x5_1.length : Int)
          ·rw [if_pos c21] at H
           have c21b0 := eq_true c21
           have c21b1 : decide (x23_1 ≤ (x5_1.length : Int)) = true := decide_eq_true c21
           obtain ⟨y124,hy124⟩ : ∃ y_ : List Int,y_ = (x5_1.drop (x23_1 : Int).toNat) := ⟨_,rfl⟩
           rw [← hy124] at H
           have Ny124 := Aside0.mk hy124
           clear hy124
           obtain ⟨y128,hy128⟩ : ∃ y_ : List Int,y_ = (splice y121 0 y124) := ⟨_,rfl⟩
           rw [← hy128] at H
           have Ny128 := Aside0.mk hy128
           clear hy128
           have H' := Aside0.mk H
           clear H
           have p120 : 0 ≤ (x23_1 : Int) := od
           have q120 : x23_1 < (x21_1.length : Int) := od
           obtain ⟨ad120,e120,hx120_0⟩ := Kd.at_int (Kd.R_reads' HO_21.out).2.2 x23_1 p120 q120
           cases e120
           replace p120 := eq_true p120
           replace q120 := eq_true q120
           go_wp2_with (first | ((with_reducible refine q3b (N := 31) rfl ?_); refine Kd.R_make (Kd.int .u32) _ 88 rfl (N := 31) rfl 43 _ _ rfl ji17 rfl rfl Tryz.underlying43 (.int .u32 0) 4 q3a rfl (by decide) (by omega) 0 (ok := fun _ => True) (okp := fun _ => True) rfl (fun _ hk => hk) trivial (od) (Nat.le_trans (Nat.mul_le_mul_right _ (od : ji17.toNat ≤ 70368744177664)) (by omega)) (Below.refl _ _) (Nat.le_refl _) ?_; intro v122 w22 ho23 hb hg_ hnew_; clear hg_ hnew_; (rw [← Ny121.out] at ho23); have HO123 := Aside0.mk (Kd.R_lower (Kd.R_new' (Kd.R_new' (Kd.R_new' ho23 (Kd.R_lt (rm HO_1))) (Kd.R_lt (rm HO_5))) (Kd.R_lt (rm HO_21))) (q0e (hb0 HB))); replace HO_1 := Aside0.mk (Kd.R_elder' (rm HO_1) (Kd.R_base ho23) hb); replace HO_5 := Aside0.mk (Kd.R_elder' (rm HO_5) (Kd.R_base ho23) hb); replace HO_21 := Aside0.mk (Kd.R_elder' (rm HO_21) (Kd.R_base ho23) hb); replace HB := Aside0.mk (q0h (hb0 HB) hb); clear hb ho23; obtain ⟨Ao25,co25,eo25⟩ := Kd.R_slice HO_5.out; subst eo25; have q24 : (x23_1 : Int) ≤ ((x5_1.length : Int) : Int) := od; obtain ⟨i024,hi024,_,hsz24,_⟩ := info_parts q3a; have hroom24 : x5_1.length ≤ co25 := (Kd.R_reads' HO_5.out).2.1; have hC24 : Kd.C (Kd.int .u32) _ Ao25 x5_1.length x5_1 := (Kd.R_reads' HO_5.out).2.2; have q024 : (0 : Int) ≤ (x23_1 : Int) := od; have hcut24 := qCg (P := Tryz.prog) 43 88 .i64 Tryz.underlying43 hi024 1 hsz24 Ao25 x5_1.length co25 x23_1 q024 q24; have hr24 := Kd.C_drop (m := (x23_1 : Int).toNat) (c := co25) hC24 (by omega) hroom24; obtain ⟨A24,hA24⟩ : ∃ A1,A1 = (if co25 = (x23_1 : Int).toNat then Ao25 else (Ao25 : Option Addr).map (·.add ((x23_1 : Int).toNat * 1))) := ⟨_,rfl⟩; obtain ⟨c24,hc24⟩ : ∃ c1,c1 = co25 - (x23_1 : Int).toNat := ⟨_,rfl⟩; have hy24 : y124.length = x5_1.length - (x23_1 : Int).toNat := (by rw [Ny124.out,List.length_drop] <;> omega); rw [show (x5_1).drop (x23_1 : Int).toNat = y124 from Ny124.out.symm] at hr24; replace hr24 : Kd.C (Kd.int .u32) _ A24 y124.length y124 := (by rw [hA24]; exact hr24); rw [← hy24,← hA24,← hc24] at hcut24; have HR127 := Aside0.mk hr24; have HC127 := Aside0.mk (show y124.length ≤ c24 from by rw [hy24,hc24]; exact Nat.sub_le_sub_right hroom24 _); clear hr24 hC24 hroom24 hi024 hsz24 hc24; have KY24 := Aside0.mk hy24; have KA24 := Aside0.mk hA24; clear hy24 hA24; have KL24 := Aside0.mk (show (x23_1 : Int).toNat ≤ x5_1.length from by omega); replace q24 := eq_true q24; obtain ⟨Ao28,co28,eo28⟩ := Kd.R_slice HO123.out; subst eo28; have n_ := Aside0.mk (Kd.R_mono (ok' := (fun k_ => some k_ ≠ (.slice Ao11 x1_1.length co11 : Value).ownBlock ∧ some k_ ≠ (.slice Ao25 x5_1.length co25 : Value).ownBlock ∧ some k_ ≠ (.slice (some ad120) x21_1.length co10 : Value).ownBlock)) HO123.out (fun k_ hk => ⟨hk.1.1.2,⟨hk.1.2,hk.2⟩⟩)); clear HO123; have HO123 := n_; clear n_) | ((with_reducible refine q1u (b := .copy) (xs := #[.tmp 32,.tmp 35]) rfl ?_); refine Kd.R_copy_whole (enc := (Value.int .u32)) (h1 := fun _ => rfl) (w0 := w) 0 w.heap.size rfl (.tmp 32) (.tmp 35) 43 43 88 rfl Tryz.underlying43 q3a (.slice Ao28 y121.length co28) y121 y124 _ _ _ (fun k_ => some k_ ≠ (.slice Ao11 x1_1.length co11 : Value).ownBlock ∧ some k_ ≠ (.slice Ao25 x5_1.length co25 : Value).ownBlock ∧ some k_ ≠ (.slice (some ad120) x21_1.length co10 : Value).ownBlock) rfl rfl ?aO ?aR ?aB ?aS ?_; (case aO => exact (rm HO123)); (case aR => repeat (exact (by repeat (exact HR127.out)))); (case aB => exact (hb0 HB)); (case aS => exact (q0e (hb0 HB))); intro w27 n_ hg hp_ hb; rw [← Ny128.out] at hp_; replace HO_1 := Aside0.mk (Kd.R_after (v := (.slice Ao28 y121.length co28)) (v1 := (.slice Ao28 y121.length co28)) (ok := (fun k_ => some k_ ≠ (.slice Ao25 x5_1.length co25 : Value).ownBlock ∧ some k_ ≠ (.slice (some ad120) x21_1.length co10 : Value).ownBlock)) (rm HO_1) hg (.inl rfl)); replace HO_5 := Aside0.mk (Kd.R_after (v := (.slice Ao28 y121.length co28)) (v1 := (.slice Ao28 y121.length co28)) (ok := (fun k_ => some k_ ≠ (.slice Ao11 x1_1.length co11 : Value).ownBlock ∧ some k_ ≠ (.slice (some ad120) x21_1.length co10 : Value).ownBlock)) (rm HO_5) hg (.inl rfl)); replace HO_21 := Aside0.mk (Kd.R_after (v := (.slice Ao28 y121.length co28)) (v1 := (.slice Ao28 y121.length co28)) (ok := (fun k_ => some k_ ≠ (.slice Ao11 x1_1.length co11 : Value).ownBlock ∧ some k_ ≠ (.slice Ao25 x5_1.length co25 : Value).ownBlock)) (rm HO_21) hg (.inl rfl)); replace HO123 := Aside0.mk (hp_); replace HB := Aside0.mk (hb); clear hb hg hp_; (try clear hcut24)))
           go_loopg [9,39] k1 (fun kq v9 v39 w' => ∃ (x8_2 : List Int) (x9_2 : Int) (x39_2 : Int),v9 = .int .u64 x9_2 ∧ v39 = .int .i64 x39_2 ∧ Aside0 (q1k.l1 kq x1_1 x5_1 x23_1 (rd x21_1 x23_1) x8_2 x9_2 x21_1 (t108.length : Int) x23_1 (y121.length : Int) x39_2 = some r) ∧ Aside0 (kq ≤ k1) ∧ Aside0 (Kd.R (Kd.int .u32) 88 w' w.heap.size (fun k_ => some k_ ≠ ((.slice Ao25 x5_1.length co25) : Value).ownBlock ∧ some k_ ≠ ((.slice Ao28 y121.length co28) : Value).ownBlock ∧ some k_ ≠ ((.slice (some ad120) x21_1.length co10) : Value).ownBlock) (.slice Ao11 x1_1.length co11) x1_1) ∧ Aside0 (Kd.R (Kd.int .u32) 88 w' w.heap.size (fun k_ => some k_ ≠ ((.slice Ao11 x1_1.length co11) : Value).ownBlock ∧ some k_ ≠ ((.slice Ao28 y121.length co28) : Value).ownBlock ∧ some k_ ≠ ((.slice (some ad120) x21_1.length co10) : Value).ownBlock) (.slice Ao25 x5_1.length co25) x5_1) ∧ Aside0 (Kd.R (Kd.int .u32) 88 w' w.heap.size (fun k_ => some k_ ≠ ((.slice Ao11 x1_1.length co11) : Value).ownBlock ∧ some k_ ≠ ((.slice Ao25 x5_1.length co25) : Value).ownBlock ∧ some k_ ≠ ((.slice (some ad120) x21_1.length co10) : Value).ownBlock) (.slice Ao28 y121.length co28) x8_2) ∧ Aside0 (Kd.R (Kd.int .u32) 88 w' w.heap.size (fun k_ => some k_ ≠ ((.slice Ao11 x1_1.length co11) : Value).ownBlock ∧ some k_ ≠ ((.slice Ao25 x5_1.length co25) : Value).ownBlock ∧ some k_ ≠ ((.slice Ao28 y121.length co28) : Value).ownBlock) (.slice (some ad120) x21_1.length co10) x21_1) ∧ Aside0 (Below w.heap.size w w'))
           case atStart => exact ⟨(y128),(0),(0),(by rfl),(by rfl),H',⟨Nat.le_refl _⟩,⟨by (try simp only [hl1_1]); (try simp only [hl21_1]); (with_reducible repeat (apply Kd.R_drew)); exact Kd.R_mono HO_1.out (fun _ hk => ⟨hk.1.1,⟨hk.2,hk.1.2⟩⟩)⟩,⟨by (try simp only [hl1_1]); (try simp only [hl21_1]); (with_reducible repeat (apply Kd.R_drew)); exact Kd.R_mono HO_5.out (fun _ hk => ⟨hk.1.1,⟨hk.2,hk.1.2⟩⟩)⟩,⟨by (try simp only [hl1_1]); (try simp only [hl21_1]); (with_reducible repeat (apply Kd.R_drew)); exact HO123.out⟩,⟨by (try simp only [hl1_1]); (try simp only [hl21_1]); (with_reducible repeat (apply Kd.R_drew)); exact Kd.R_mono HO_21.out (fun _ hk => ⟨hk.1.1,⟨hk.1.2,hk.2⟩⟩)⟩,⟨hb0 HB⟩⟩
           case round =>
            clear H'
            obtain ⟨x8_2,x9_2,x39_2,rfl,rfl,HA,HK2,HO_1,HO_5,HO_8,HO_21,HB⟩ := hrel
            have hl8_2 := (Kd.R_reads' HO_8.out).1
            rw [hl8_2] at HO_8
            (try simp only [hl8_2])
            (try simp only [hl8_2] at HO_1)
            (try simp only [hl8_2] at HO_5)
            (try simp only [hl8_2] at HO_21)
            cases gk with
            | zero => exact absurd HA.out (by simp [q1k.l1])
            | succ k2 =>
             have H := HA.out
             clear HA
             simp only [q1k.l1] at H
             by_cases c30 : x39_2 < (y121.length : Int)
             ·rw [if_pos c30] at H
              have c30b0 : decide (x39_2 < (y121.length : Int)) = true := decide_eq_true c30
              (try simp only [hl1_1,hl21_1,hl8_2] at c30b0)
              by_cases c31 : x39_2 < (x1_1.length : Int)
              ·rw [if_pos c31] at H
               have c31b0 : decide (x39_2 < (x1_1.length : Int)) = true := decide_eq_true c31
               (try simp only [hl1_1,hl21_1,hl8_2] at c31b0)
               by_cases c32 : 0 ≤ x39_2
               ·rw [if_pos c32] at H
                have c32b0 : decide (0 ≤ x39_2) = true := decide_eq_true c32
                by_cases c33 : x39_2 < (x8_2.length : Int)
                ·rw [if_pos c33] at H
                 have c33b0 : decide (x39_2 < (x8_2.length : Int)) = true := decide_eq_true c33
                 (try simp only [hl1_1,hl21_1,hl8_2] at c33b0)
                 obtain ⟨y131,hy131⟩ : ∃ y_ : List Int,y_ = (x8_2.set (x39_2 : Int).toNat ((IntKind.u64.wrap ((IntKind.u64.wrap (x9_2 + (IntKind.u64.wrap ((IntKind.u64.wrap ((rd x21_1 x23_1))) * (IntKind.u64.wrap (rd x1_1 x39_2)))))) + (IntKind.u64.wrap (rd x8_2 x39_2)))) % 4294967296)) := ⟨_,rfl⟩
                 rw [← hy131] at H
                 have Ny131 := Aside0.mk hy131
                 clear hy131
                 have H' := Aside0.mk H
                 clear H
                 have p129 : 0 ≤ (x39_2 : Int) := od
                 have q129 : x39_2 < (x1_1.length : Int) := od
                 obtain ⟨ad129,e129,hx129_0⟩ := Kd.at_int (Kd.R_reads' HO_1.out).2.2 x39_2 p129 q129
                 cases e129
                 replace p129 := eq_true p129
                 replace q129 := eq_true q129
                 have p130 : 0 ≤ (x39_2 : Int) := od
                 have q130 : x39_2 < (x8_2.length : Int) := od
                 obtain ⟨ad130,e130,hx130_0⟩ := Kd.at_int (Kd.R_reads' HO_8.out).2.2 x39_2 p130 q130
                 cases e130
                 replace p130 := eq_true p130
                 replace q130 := eq_true q130
                 have p34 : 0 ≤ (x39_2 : Int) := od
                 have q34 : (x39_2 : Int) < ((x8_2.length : Int) : Int) := od
                 obtain ⟨go34,co34,eo34,gb34,gl34,cl34,HG34⟩ := Kd.R_form HO_8.out (by omega)
                 (cases eo34)
                 have GB34 := Aside0.mk gb34
                 have GG34 := Aside0.mk HG34
                 clear gb34 gl34 HG34
                 (simp only [q5l] at hx130_0)
                 obtain ⟨hx34_0,hf34_0⟩ := Kd.R_celln 0 HO_8.out (x39_2 : Int) p34 q34
                 replace p34 := eq_true p34
                 replace q34 := eq_true q34
                 have HP35 := Kd.R_putg HO_8.out (x39_2 : Int) ((IntKind.u64.wrap ((IntKind.u64.wrap (x9_2 + (IntKind.u64.wrap ((IntKind.u64.wrap ((rd x21_1 x23_1))) * (IntKind.u64.wrap (rd x1_1 x39_2)))))) + (IntKind.u64.wrap (rd x8_2 x39_2)))) % 4294967296)
                 go_wp2_with (((with_reducible refine q5c (t := 88) (p := 67) rfl ?_); refine q4m (t := 88) (p := 67) (v := ?vo_w36) (w1 := (wr.setCell ⟨go34,(x39_2 : Int).toNat,none⟩ (.int .u32 ((IntKind.u64.wrap ((IntKind.u64.wrap (x9_2 + (IntKind.u64.wrap ((IntKind.u64.wrap ((rd x21_1 x23_1))) * (IntKind.u64.wrap (rd x1_1 x39_2)))))) + (IntKind.u64.wrap (rd x8_2 x39_2)))) % 4294967296)))) ?hg ?ho ?hn ?hr ?_; (case ho => rfl); (case hg => rfl); (case hn => rfl); (case hr => (go_simp; done)); intro w36 hw; have hg : wr.grownBy w36 (some go34) := (by rw [hw]; exact HP35.2); have hp_ : Kd.R (Kd.int .u32) 88 w36 w.heap.size (fun k_ => some k_ ≠ (.slice (some ad129) x1_1.length co11 : Value).ownBlock ∧ some k_ ≠ (.slice Ao25 x5_1.length co25 : Value).ownBlock ∧ some k_ ≠ (.slice (some ad120) x21_1.length co10 : Value).ownBlock) (.slice (some ⟨go34,0,none⟩) x8_2.length co28) y131 := (by rw [hw,Ny131.out]; exact HP35.1); clear HP35; replace HO_1 := Aside0.mk (Kd.R_after (v := (.slice (some ⟨go34,0,none⟩) x8_2.length co28)) (v1 := (.slice (some ⟨go34,0,none⟩) x8_2.length co28)) (ok := (fun k_ => some k_ ≠ (.slice Ao25 x5_1.length co25 : Value).ownBlock ∧ some k_ ≠ (.slice (some ad120) x21_1.length co10 : Value).ownBlock)) (by (with_reducible repeat (apply Kd.R_drew)); exact Kd.R_mono HO_1.out (fun _ hk => ⟨⟨hk.1,hk.2.2⟩,hk.2.1⟩)) hg (.inl rfl)); replace HO_5 := Aside0.mk (Kd.R_after (v := (.slice (some ⟨go34,0,none⟩) x8_2.length co28)) (v1 := (.slice (some ⟨go34,0,none⟩) x8_2.length co28)) (ok := (fun k_ => some k_ ≠ (.slice (some ad129) x1_1.length co11 : Value).ownBlock ∧ some k_ ≠ (.slice (some ad120) x21_1.length co10 : Value).ownBlock)) (by (with_reducible repeat (apply Kd.R_drew)); exact Kd.R_mono HO_5.out (fun _ hk => ⟨⟨hk.1,hk.2.2⟩,hk.2.1⟩)) hg (.inl rfl)); replace HO_8 := Aside0.mk (hp_); replace HO_21 := Aside0.mk (Kd.R_after (v := (.slice (some ⟨go34,0,none⟩) x8_2.length co28)) (v1 := (.slice (some ⟨go34,0,none⟩) x8_2.length co28)) (ok := (fun k_ => some k_ ≠ (.slice (some ad129) x1_1.length co11 : Value).ownBlock ∧ some k_ ≠ (.slice Ao25 x5_1.length co25 : Value).ownBlock)) (by (with_reducible repeat (apply Kd.R_drew)); exact Kd.R_mono HO_21.out (fun _ hk => ⟨⟨hk.1,hk.2.1⟩,hk.2.2⟩)) hg (.inl rfl)); replace HB := Aside0.mk ((by rw [hw]; exact q2s (HB.out) GB34.out : Below w.heap.size w w36)); clear hg hw hp_))
                 (try simp only [← hl8_2])
                 go_roundg k2
                 case measure => have := HK1.out; have := HK2.out; omega
                 case rel => exact ⟨(y131),((IntKind.u64.wrap ((IntKind.u64.wrap (x9_2 + (IntKind.u64.wrap ((IntKind.u64.wrap ((rd x21_1 x23_1))) * (IntKind.u64.wrap (rd x1_1 x39_2)))))) + (IntKind.u64.wrap (rd x8_2 x39_2)))) / 4294967296),(wrap64 (x39_2 + 1)),(by rfl),(by rfl),H',⟨by have := HK1.out; have := HK2.out; omega⟩,⟨by (try simp only [hl1_1]); (try simp only [hl21_1]); (try simp only [hl8_2]); (with_reducible repeat (apply Kd.R_drew)); exact Kd.R_mono HO_1.out (fun _ hk => ⟨hk.1.1,⟨hk.2,hk.1.2⟩⟩)⟩,⟨by (try simp only [hl1_1]); (try simp only [hl21_1]); (try simp only [hl8_2]); (with_reducible repeat (apply Kd.R_drew)); exact Kd.R_mono HO_5.out (fun _ hk => ⟨hk.1.1,⟨hk.2,hk.1.2⟩⟩)⟩,⟨by (try simp only [hl1_1]); (try simp only [hl21_1]); (try simp only [hl8_2]); (with_reducible repeat (apply Kd.R_drew)); exact HO_8.out⟩,⟨by (try simp only [hl1_1]); (try simp only [hl21_1]); (try simp only [hl8_2]); (with_reducible repeat (apply Kd.R_drew)); exact Kd.R_mono HO_21.out (fun _ hk => ⟨hk.1.1,⟨hk.1.2,hk.2⟩⟩)⟩,⟨hb0 HB⟩⟩
                ·rw [if_neg c33] at H
                 cases H
               ·rw [if_neg c32] at H
                cases H
              ·rw [if_neg c31] at H
               have c31b0 : decide (x39_2 < (x1_1.length : Int)) = false := decide_eq_false c31
               (try simp only [hl1_1,hl21_1,hl8_2] at c31b0)
               by_cases c37 : 0 ≤ x39_2
               ·rw [if_pos c37] at H
                have c37b0 : decide (0 ≤ x39_2) = true := decide_eq_true c37
                by_cases c38 : x39_2 < (x8_2.length : Int)
                ·rw [if_pos c38] at H
                 have c38b0 : decide (x39_2 < (x8_2.length : Int)) = true := decide_eq_true c38
                 (try simp only [hl1_1,hl21_1,hl8_2] at c38b0)
                 obtain ⟨y133,hy133⟩ : ∃ y_ : List Int,y_ = (x8_2.set (x39_2 : Int).toNat ((IntKind.u64.wrap (x9_2 + (IntKind.u64.wrap (rd x8_2 x39_2)))) % 4294967296)) := ⟨_,rfl⟩
                 rw [← hy133] at H
                 have Ny133 := Aside0.mk hy133
                 clear hy133
                 have H' := Aside0.mk H
                 clear H
                 have p132 : 0 ≤ (x39_2 : Int) := od
                 have q132 : x39_2 < (x8_2.length : Int) := od
                 obtain ⟨ad132,e132,hx132_0⟩ := Kd.at_int (Kd.R_reads' HO_8.out).2.2 x39_2 p132 q132
                 cases e132
                 replace p132 := eq_true p132
                 replace q132 := eq_true q132
                 have p39 : 0 ≤ (x39_2 : Int) := od
                 have q39 : (x39_2 : Int) < ((x8_2.length : Int) : Int) := od
                 obtain ⟨go39,co39,eo39,gb39,gl39,cl39,HG39⟩ := Kd.R_form HO_8.out (by omega)
                 (cases eo39)
                 have GB39 := Aside0.mk gb39
                 have GG39 := Aside0.mk HG39
                 clear gb39 gl39 HG39
                 (simp only [q5l] at hx132_0)
                 obtain ⟨hx39_0,hf39_0⟩ := Kd.R_celln 0 HO_8.out (x39_2 : Int) p39 q39
                 replace p39 := eq_true p39
                 replace q39 := eq_true q39
                 have HP40 := Kd.R_putg HO_8.out (x39_2 : Int) ((IntKind.u64.wrap (x9_2 + (IntKind.u64.wrap (rd x8_2 x39_2)))) % 4294967296)
                 go_wp2_with (((with_reducible refine q5c (t := 88) (p := 67) rfl ?_); refine q4m (t := 88) (p := 67) (v := ?vo_w41) (w1 := (wr.setCell ⟨go39,(x39_2 : Int).toNat,none⟩ (.int .u32 ((IntKind.u64.wrap (x9_2 + (IntKind.u64.wrap (rd x8_2 x39_2)))) % 4294967296)))) ?hg ?ho ?hn ?hr ?_; (case ho => rfl); (case hg => rfl); (case hn => rfl); (case hr => (go_simp; done)); intro w41 hw; have hg : wr.grownBy w41 (some go39) := (by rw [hw]; exact HP40.2); have hp_ : Kd.R (Kd.int .u32) 88 w41 w.heap.size (fun k_ => some k_ ≠ (.slice Ao11 x1_1.length co11 : Value).ownBlock ∧ some k_ ≠ (.slice Ao25 x5_1.length co25 : Value).ownBlock ∧ some k_ ≠ (.slice (some ad120) x21_1.length co10 : Value).ownBlock) (.slice (some ⟨go39,0,none⟩) x8_2.length co28) y133 := (by rw [hw,Ny133.out]; exact HP40.1); clear HP40; replace HO_1 := Aside0.mk (Kd.R_after (v := (.slice (some ⟨go39,0,none⟩) x8_2.length co28)) (v1 := (.slice (some ⟨go39,0,none⟩) x8_2.length co28)) (ok := (fun k_ => some k_ ≠ (.slice Ao25 x5_1.length co25 : Value).ownBlock ∧ some k_ ≠ (.slice (some ad120) x21_1.length co10 : Value).ownBlock)) (by (with_reducible repeat (apply Kd.R_drew)); exact Kd.R_mono HO_1.out (fun _ hk => ⟨⟨hk.1,hk.2.2⟩,hk.2.1⟩)) hg (.inl rfl)); replace HO_5 := Aside0.mk (Kd.R_after (v := (.slice (some ⟨go39,0,none⟩) x8_2.length co28)) (v1 := (.slice (some ⟨go39,0,none⟩) x8_2.length co28)) (ok := (fun k_ => some k_ ≠ (.slice Ao11 x1_1.length co11 : Value).ownBlock ∧ some k_ ≠ (.slice (some ad120) x21_1.length co10 : Value).ownBlock)) (by (with_reducible repeat (apply Kd.R_drew)); exact Kd.R_mono HO_5.out (fun _ hk => ⟨⟨hk.1,hk.2.2⟩,hk.2.1⟩)) hg (.inl rfl)); replace HO_8 := Aside0.mk (hp_); replace HO_21 := Aside0.mk (Kd.R_after (v := (.slice (some ⟨go39,0,none⟩) x8_2.length co28)) (v1 := (.slice (some ⟨go39,0,none⟩) x8_2.length co28)) (ok := (fun k_ => some k_ ≠ (.slice Ao11 x1_1.length co11 : Value).ownBlock ∧ some k_ ≠ (.slice Ao25 x5_1.length co25 : Value).ownBlock)) (by (with_reducible repeat (apply Kd.R_drew)); exact Kd.R_mono HO_21.out (fun _ hk => ⟨⟨hk.1,hk.2.1⟩,hk.2.2⟩)) hg (.inl rfl)); replace HB := Aside0.mk ((by rw [hw]; exact q2s (HB.out) GB39.out : Below w.heap.size w w41)); clear hg hw hp_))
                 (try simp only [← hl8_2])
                 go_roundg k2
                 case measure => have := HK1.out; have := HK2.out; omega
                 case rel => exact ⟨(y133),((IntKind.u64.wrap (x9_2 + (IntKind.u64.wrap (rd x8_2 x39_2)))) / 4294967296),(wrap64 (x39_2 + 1)),(by rfl),(by rfl),H',⟨by have := HK1.out; have := HK2.out; omega⟩,⟨by (try simp only [hl1_1]); (try simp only [hl21_1]); (try simp only [hl8_2]); (with_reducible repeat (apply Kd.R_drew)); exact Kd.R_mono HO_1.out (fun _ hk => ⟨hk.1.1,⟨hk.2,hk.1.2⟩⟩)⟩,⟨by (try simp only [hl1_1]); (try simp only [hl21_1]); (try simp only [hl8_2]); (with_reducible repeat (apply Kd.R_drew)); exact Kd.R_mono HO_5.out (fun _ hk => ⟨hk.1.1,⟨hk.2,hk.1.2⟩⟩)⟩,⟨by (try simp only [hl1_1]); (try simp only [hl21_1]); (try simp only [hl8_2]); (with_reducible repeat (apply Kd.R_drew)); exact HO_8.out⟩,⟨by (try simp only [hl1_1]); (try simp only [hl21_1]); (try simp only [hl8_2]); (with_reducible repeat (apply Kd.R_drew)); exact Kd.R_mono HO_21.out (fun _ hk => ⟨hk.1.1,⟨hk.1.2,hk.2⟩⟩)⟩,⟨hb0 HB⟩⟩
                ·rw [if_neg c38] at H
                 cases H
               ·rw [if_neg c37] at H
                cases H
             ·rw [if_neg c30] at H
              have c30b0 : decide (x39_2 < (y121.length : Int)) = false := decide_eq_false c30
              (try simp only [hl1_1,hl21_1,hl8_2] at c30b0)
              by_cases c42 : 0 ≤ x23_1
              ·rw [if_pos c42] at H
               have c42b0 := eq_true c42
               have c42b1 : decide (0 ≤ x23_1) = true := decide_eq_true c42
               by_cases c43 : x23_1 ≤ (x5_1.length : Int)
               ·rw [if_pos c43] at H
                have c43b0 := eq_true c43
                have c43b1 : decide (x23_1 ≤ (x5_1.length : Int)) = true := decide_eq_true c43
                obtain ⟨y134,hy134⟩ : ∃ y_ : List Int,y_ = (x5_1.drop (x23_1 : Int).toNat) := ⟨_,rfl⟩
                replace H : (q1k.l0 k2 x1_1 (splice x5_1 (x23_1 : Int).toNat x8_2) x21_1 (t108.length : Int) (wrap64 (x23_1 + 1))) = some r := by (have H2_ := (Option.bind_some _ _).symm.trans H; with_reducible exact H2_)
                have Ny134 := Aside0.mk hy134
                clear hy134
                obtain ⟨y138,hy138⟩ : ∃ y_ : List Int,y_ = (splice x5_1 (x23_1 : Int).toNat x8_2) := ⟨_,rfl⟩
                rw [← hy138] at H
                have Ny138 := Aside0.mk hy138
                clear hy138
                have H' := Aside0.mk H
                clear H
                have q44 : (x23_1 : Int) ≤ ((x5_1.length : Int) : Int) := od
                obtain ⟨i044,hi044,_,hsz44,_⟩ := info_parts q3a
                have hroom44 : x5_1.length ≤ co25 := (Kd.R_reads' HO_5.out).2.1
                have hC44 : Kd.C (Kd.int .u32) _ Ao25 x5_1.length x5_1 := (Kd.R_reads' HO_5.out).2.2
                have q044 : (0 : Int) ≤ (x23_1 : Int) := od
                have hcut44 := qCg (P := Tryz.prog) 43 88 .i64 Tryz.underlying43 hi044 1 hsz44 Ao25 x5_1.length co25 x23_1 q044 q44
                have hr44 := Kd.C_drop (m := (x23_1 : Int).toNat) (c := co25) hC44 (by omega) hroom44
                obtain ⟨A44,hA44⟩ : ∃ A1,A1 = (if co25 = (x23_1 : Int).toNat then Ao25 else (Ao25 : Option Addr).map (·.add ((x23_1 : Int).toNat * 1))) := ⟨_,rfl⟩
                obtain ⟨c44,hc44⟩ : ∃ c1,c1 = co25 - (x23_1 : Int).toNat := ⟨_,rfl⟩
                have hy44 : y134.length = x5_1.length - (x23_1 : Int).toNat := (by rw [Ny134.out,List.length_drop] <;> omega)
                rw [show (x5_1).drop (x23_1 : Int).toNat = y134 from Ny134.out.symm] at hr44
                replace hr44 : Kd.C (Kd.int .u32) _ A44 y134.length y134 := (by rw [hA44]; exact hr44)
                rw [← hy44,← hA44,← hc44] at hcut44
                have HR137 := Aside0.mk hr44
                have HC137 := Aside0.mk (show y134.length ≤ c44 from by rw [hy44,hc44]; exact Nat.sub_le_sub_right hroom44 _)
                clear hr44 hC44 hroom44 hi044 hsz44 hc44
                have KY44 := Aside0.mk hy44
                have KA44 := Aside0.mk hA44
                clear hy44 hA44
                have KL44 := Aside0.mk (show (x23_1 : Int).toNat ≤ x5_1.length from by omega)
                replace q44 := eq_true q44
                go_wp2_with (((with_reducible refine q1u (b := .copy) (xs := #[.tmp 73,.tmp 74]) rfl ?_); refine Kd.R_copy_cut (enc := (Value.int .u32)) (h1 := fun _ => rfl) (w0 := w) 0 w.heap.size rfl (.tmp 73) (.tmp 74) 43 43 88 rfl Tryz.underlying43 q3a Ao25 x5_1.length co25 (x23_1 : Int).toNat A44 y134.length c44 x5_1 x8_2 _ _ _ (fun k_ => some k_ ≠ (.slice Ao11 x1_1.length co11 : Value).ownBlock ∧ some k_ ≠ (.slice Ao28 x8_2.length co28 : Value).ownBlock ∧ some k_ ≠ (.slice (some ad120) x21_1.length co10 : Value).ownBlock) rfl rfl ?aO ?aA ?aM ?aN ?aR ?aB ?aS ?_; (case aA => exact KA44.out); (case aM => exact KY44.out); (case aN => exact KL44.out); (case aO => exact (rm HO_5)); (case aR => exact cr HO_8); (case aB => exact (hb0 HB)); (case aS => exact (q0e (hb0 HB))); intro w46 n_ hg hp_ hb; rw [← Ny138.out] at hp_; replace HO_1 := Aside0.mk (Kd.R_after (v := (.slice Ao25 x5_1.length co25)) (v1 := (.slice Ao25 x5_1.length co25)) (ok := (fun k_ => some k_ ≠ (.slice Ao28 x8_2.length co28 : Value).ownBlock ∧ some k_ ≠ (.slice (some ad120) x21_1.length co10 : Value).ownBlock)) (by (with_reducible repeat (apply Kd.R_drew)); exact Kd.R_mono HO_1.out (fun _ hk => ⟨⟨hk.2.1,hk.2.2⟩,hk.1⟩)) hg (.inl rfl)); replace HO_5 := Aside0.mk (hp_); replace HO_8 := Aside0.mk (Kd.R_after (v := (.slice Ao25 x5_1.length co25)) (v1 := (.slice Ao25 x5_1.length co25)) (ok := (fun k_ => some k_ ≠ (.slice Ao11 x1_1.length co11 : Value).ownBlock ∧ some k_ ≠ (.slice (some ad120) x21_1.length co10 : Value).ownBlock)) (by (with_reducible repeat (apply Kd.R_drew)); exact Kd.R_mono HO_8.out (fun _ hk => ⟨⟨hk.1,hk.2.2⟩,hk.2.1⟩)) hg (.inl rfl)); replace HO_21 := Aside0.mk (Kd.R_after (v := (.slice Ao25 x5_1.length co25)) (v1 := (.slice Ao25 x5_1.length co25)) (ok := (fun k_ => some k_ ≠ (.slice Ao11 x1_1.length co11 : Value).ownBlock ∧ some k_ ≠ (.slice Ao28 x8_2.length co28 : Value).ownBlock)) (by (with_reducible repeat (apply Kd.R_drew)); exact Kd.R_mono HO_21.out (fun _ hk => ⟨⟨hk.1,hk.2.2⟩,hk.2.1⟩)) hg (.inl rfl)); replace HB := Aside0.mk (hb); clear hb hg hp_; (try clear hcut44)))
                (try simp only [← hl1_1,← hl21_1,← hl8_2])
                go_roundg k2
                case measure => have := HK1.out; have := HK2.out; omega
                case rel => exact ⟨(x1_1),(y138),(x21_1),(wrap64 (x23_1 + 1)),(by rfl),H',⟨by have := HK1.out; have := HK2.out; omega⟩,⟨by (try simp only [hl1_1]); (try simp only [hl21_1]); (try simp only [hl8_2]); (with_reducible repeat (apply Kd.R_drew)); exact Kd.R_mono HO_1.out (fun _ hk => ⟨hk.2,hk.1.2⟩)⟩,⟨by (try simp only [hl1_1]); (try simp only [hl21_1]); (try simp only [hl8_2]); (with_reducible repeat (apply Kd.R_drew)); exact Kd.R_mono HO_5.out (fun _ hk => ⟨hk.1,hk.2.2⟩)⟩,⟨by (try simp only [hl1_1]); (try simp only [hl21_1]); (try simp only [hl8_2]); (with_reducible repeat (apply Kd.R_drew)); exact Kd.R_mono HO_21.out (fun _ hk => ⟨hk.1.1,hk.2⟩)⟩,⟨hb0 HB⟩⟩
               ·rw [if_neg c43] at H
                cases H
              ·rw [if_neg c42] at H
               cases H
          ·rw [if_neg c21] at H
           cases H
         ·rw [if_neg c19] at H
          cases H
        ·rw [if_neg c18] at H
         cases H
       ·rw [if_neg c16] at H
        cases H
      ·rw [if_neg c15] at H
       cases H
     ·rw [if_neg c14] at H
      have c14b0 : decide (x23_1 < (t108.length : Int)) = false := decide_eq_false c14
      (try simp only [hl1_1,hl21_1] at c14b0)
      obtain ⟨t117,A480,H⟩ := bs H
      have A48 := Aside0.mk A480
      clear A480
      obtain rfl := Option.some.inj H
      obtain ⟨Ao49,co49,eo49⟩ := Kd.R_slice HO_5.out
      subst eo49
      go_wp2_with (((with_reducible refine q0b (f := 133) rfl ?_); refine q0u (some 78) rfl rfl Tryz.func133 (by kernel_rfl) rfl #[.slice Ao49 x5_1.length co49] rfl (ml) ?_; (with_reducible refine (q1a.calls k1 _ _ x5_1 t117 _ ?side1 ?side2 A48.out).mono ?_); (case side1 => exact cr HO_5); (case side2 => exact (Kd.R_reads' HO_5.out).2.1); rintro e w50 ⟨v118,rfl,ho0,hb⟩; refine ⟨_,rfl,?_⟩; have HO119 := Aside0.mk (Kd.R_lower (Kd.R_new' (Kd.R_new' (Kd.R_new' ho0 (Kd.R_lt (rm HO_1))) (Kd.R_lt (rm HO_5))) (Kd.R_lt (rm HO_21))) (q0e (hb0 HB))); replace HO_1 := Aside0.mk (Kd.R_elder' (rm HO_1) (Kd.R_base ho0) hb); replace HO_5 := Aside0.mk (Kd.R_elder' (rm HO_5) (Kd.R_base ho0) hb); replace HO_21 := Aside0.mk (Kd.R_elder' (rm HO_21) (Kd.R_base ho0) hb); replace HB := Aside0.mk (q0h (hb0 HB) hb)))
      go_ret
      exact ⟨_,by rfl,by (with_reducible repeat (apply Kd.R_drew)); exact Kd.R_mono HO119.out (fun _ hk => trivial),hb0 HB⟩
  ·rw [if_neg c7] at H
   cases H
 ·rw [if_neg c6] at H
  cases H
def q3r.f (k : Nat) (l0 : List Int) (a1 : Int) : Option (List Int) := (q1k.f k l0 (([a1] : List Int))).bind fun t142 => (some t142)
theorem q3r.calls (k : Nat) (A0 : Option Addr) (c0 : Nat) (l0 : List Int) (a1 : Int) (r : List Int) (w : World) (hr0 : Kd.C (Kd.int .u32) w A0 l0.length l0) (hc0 : l0.length ≤ c0) (h : q3r.f k l0 a1 = some r) :
  Calls Tryz.prog 172 #[.slice A0 l0.length c0,.int .u32 a1] w fun e w' => ∃ v0_ : Value,e = .returned (v0_) ∧ Kd.R (Kd.int .u32) 88 w' w.heap.size (fun _ => True) v0_ r ∧ Below w.heap.size w w' := by
 have HR0 := Aside0.mk hr0
 have HC0 := Aside0.mk hc0
 clear hr0 hc0
 have HB := Aside0.mk (Below.refl w.heap.size w)
 have H := h
 unfold q3r.f at H
 clear h
 obtain ⟨y139,hy139⟩ : ∃ y_ : List Int,y_ = (([a1] : List Int)) := ⟨_,rfl⟩
 rw [← hy139] at H
 have Ny139 := Aside0.mk hy139
 clear hy139
 obtain ⟨t142,A30,H⟩ := bs H
 have A3 := Aside0.mk A30
 clear A30
 obtain rfl := Option.some.inj H
 go_enter Tryz.func172,Tryz.ntmps172
 go_wp2_with (first | ((with_reducible refine q3b (N := 7) rfl ?_); refine Kd.R_lit (Kd.int .u32) _ 88 ?hg (N := 7) ?hd (xs := ([a1] : List Int)) (inner := [.int .u32 a1]) (ok := fun _ => True) (okp := fun _ => True) ?hr ?hp (fun _ hk => hk) trivial (Below.refl _ _) (Nat.le_refl _) (by simp) ?_; (case hd => rfl); (case hg => rfl); (case hr => (go_simp; done)); (case hp => exact (Reps.one (show Kd.M (Kd.int .u32) _ _ _ a1 [.int .u32 a1] from rfl) (Reps.none _ _))); intro v140 w4 ho5 hb hg_ hnew_; clear hg_ hnew_; (rw [← Ny139.out] at ho5); have HO141 := Aside0.mk (Kd.R_lower ho5 (q0e (hb0 HB))); replace HB := Aside0.mk (q0h (hb0 HB) hb); clear hb ho5; obtain ⟨Ao6,co6,eo6⟩ := Kd.R_slice HO141.out; subst eo6) | ((with_reducible refine q0b (f := 122) rfl ?_); refine q0u (some 8) rfl rfl Tryz.func122 (by kernel_rfl) rfl #[.slice A0 l0.length c0,.slice Ao6 y139.length co6] rfl (ml) ?_; (with_reducible refine (q1k.calls k _ _ l0 _ _ y139 t142 _ ?side1 ?side2 ?side3 ?side4 A3.out).mono ?_); (case side1 => exact cb HR0 HB); (case side2 => exact HC0.out); (case side3 => exact cr HO141); (case side4 => exact (Kd.R_reads' HO141.out).2.1); rintro e w7 ⟨v143,rfl,ho0,hb⟩; refine ⟨_,rfl,?_⟩; have HO144 := Aside0.mk (Kd.R_lower (Kd.R_new' ho0 (Kd.R_lt (rm HO141))) (q0e (hb0 HB))); replace HO141 := Aside0.mk (Kd.R_elder' (rm HO141) (Kd.R_base ho0) hb); replace HB := Aside0.mk (q0h (hb0 HB) hb)))
 go_ret
 exact ⟨_,by rfl,by (with_reducible repeat (apply Kd.R_drew)); exact Kd.R_mono HO144.out (fun _ hk => trivial),hb0 HB⟩
def qCw.f (k : Nat) (l0 : List Int) (a1 : Int) : Option (List Int) := if 0 ≤ (wrap64 ((wrap64 ((wrap64 (Int.tdiv a1 32)) + (l0.length : Int))) + 1)) then (if (wrap64 ((wrap64 ((wrap64 (Int.tdiv a1 32)) + (l0.length : Int))) + 1) : Int).toNat ≤ 70368744177664 then ((some (List.replicate (wrap64 ((wrap64 ((wrap64 (Int.tdiv a1 32)) + (l0.length : Int))) + 1) : Int).toNat 0 : List Int)).bind fun y145 => (if 0 ≤ (wrap64 (Int.tdiv a1 32)) then (if (wrap64 (Int.tdiv a1 32)) ≤ (y145.length : Int) then (if 0 ≤ (Int.tmod a1 32) then ((q3r.f k (splice y145 ((wrap64 (Int.tdiv a1 32)) : Int).toNat l0) (shl .u32 1 (Int.tmod a1 32))).bind fun t153 => (some t153)) else (none)) else (none)) else (none))) else (none)) else (none)
theorem qCw.calls (k : Nat) (A0 : Option Addr) (c0 : Nat) (l0 : List Int) (a1 : Int) (r : List Int) (w : World) (hr0 : Kd.C (Kd.int .u32) w A0 l0.length l0) (hc0 : l0.length ≤ c0) (h : qCw.f k l0 a1 = some r) :
  Calls Tryz.prog 170 #[.slice A0 l0.length c0,.int .i64 a1] w fun e w' => ∃ v0_ : Value,e = .returned (v0_) ∧ Kd.R (Kd.int .u32) 88 w' w.heap.size (fun _ => True) v0_ r ∧ Below w.heap.size w w' := by
 have HR0 := Aside0.mk hr0
 have HC0 := Aside0.mk hc0
 clear hr0 hc0
 have HB := Aside0.mk (Below.refl w.heap.size w)
 have H := h
 unfold qCw.f at H
 clear h
 obtain ⟨ji3,hji3⟩ : ∃ j_ : Int,(wrap64 ((wrap64 ((wrap64 (Int.tdiv a1 32)) + (l0.length : Int))) + 1)) = j_ := ⟨_,rfl⟩
 rw [hji3] at H
 have hji3w : (IntKind.i64.wrap ((wrap64 ((wrap64 (Int.tdiv a1 32)) + (l0.length : Int))) + 1)) = ji3 := (q4i _).trans hji3
 by_cases c4 : 0 ≤ (ji3)
 ·rw [if_pos c4] at H
  have c4b0 := eq_true c4
  have c4b1 : decide (0 ≤ (ji3)) = true := decide_eq_true c4
  by_cases c5 : (ji3 : Int).toNat ≤ 70368744177664
  ·rw [if_pos c5] at H
   have c5b0 := eq_true c5
   have c5b1 : decide ((ji3 : Int).toNat ≤ 70368744177664) = true := decide_eq_true c5
   obtain ⟨y145,hy145⟩ : ∃ y_ : List Int,y_ = (List.replicate (ji3 : Int).toNat 0) := ⟨_,rfl⟩
   replace H : (if 0 ≤ (wrap64 (Int.tdiv a1 32)) then (if (wrap64 (Int.tdiv a1 32)) ≤ (y145.length : Int) then (if 0 ≤ (Int.tmod a1 32) then ((q3r.f k (splice y145 ((wrap64 (Int.tdiv a1 32)) : Int).toNat l0) (shl .u32 1 (Int.tmod a1 32))).bind fun t153 => (some t153)) else (none)) else (none)) else (none)) = some r := by (have H2_ := (Option.bind_some _ _).symm.trans H; rw [hy145]; with_reducible exact H2_)
   have Ny145 := Aside0.mk hy145
   clear hy145
   obtain ⟨ji6,hji6⟩ : ∃ j_ : Int,(wrap64 (Int.tdiv a1 32)) = j_ := ⟨_,rfl⟩
   rw [hji6] at H
   have hji6w : (IntKind.i64.wrap (Int.tdiv a1 32)) = ji6 := (q4i _).trans hji6
   (try simp only [hji6] at hji3)
   (try simp only [hji6] at hji3w)
   by_cases c7 : 0 ≤ (ji6)
   ·rw [if_pos c7] at H
    have c7b0 := eq_true c7
    have c7b1 : decide (0 ≤ (ji6)) = true := decide_eq_true c7
    by_cases c8 : (ji6) ≤ (y145.length : Int)
    ·rw [if_pos c8] at H
     have c8b0 := eq_true c8
     have c8b1 : decide ((ji6) ≤ (y145.length : Int)) = true := decide_eq_true c8
     obtain ⟨y148,hy148⟩ : ∃ y_ : List Int,y_ = (y145.drop ((ji6) : Int).toNat) := ⟨_,rfl⟩
     replace H : (if 0 ≤ (Int.tmod a1 32) then ((q3r.f k (splice y145 ((ji6) : Int).toNat l0) (shl .u32 1 (Int.tmod a1 32))).bind fun t153 => (some t153)) else (none)) = some r := by with_reducible exact H
     have Ny148 := Aside0.mk hy148
     clear hy148
     obtain ⟨y152,hy152⟩ : ∃ y_ : List Int,y_ = (splice y145 ((ji6) : Int).toNat l0) := ⟨_,rfl⟩
     rw [← hy152] at H
     have Ny152 := Aside0.mk hy152
     clear hy152
     obtain ⟨ji9,hji9⟩ : ∃ j_ : Int,(Int.tmod a1 32) = j_ := ⟨_,rfl⟩
     rw [hji9] at H
     by_cases c10 : 0 ≤ (ji9)
     ·rw [if_pos c10] at H
      have c10b0 := eq_true c10
      have c10b1 : decide (0 ≤ (ji9)) = true := decide_eq_true c10
      obtain ⟨ji11,hji11⟩ : ∃ j_ : Int,(shl .u32 1 (ji9)) = j_ := ⟨_,rfl⟩
      rw [hji11] at H
      have hji11_ : (IntKind.u32.wrap (1 * 2 ^ min (ji9).toNat 32)) = ji11 := hji11
      have hji11z : (ji9) ≤ 32 → (IntKind.u32.wrap (1 * 2 ^ (ji9).toNat)) = ji11 := qDj hji11
      have hji11u : (IntKind.u32.wrap (2 ^ min (ji9).toNat 32)) = ji11 := by have h_ := hji11_; rw [Int.one_mul] at h_; exact h_
      have hji11v : (ji9) ≤ 32 → (IntKind.u32.wrap (2 ^ (ji9).toNat)) = ji11 := fun hle_ => by have h_ := hji11z hle_; rw [Int.one_mul] at h_; exact h_
      obtain ⟨t153,A120,H⟩ := bs H
      have A12 := Aside0.mk A120
      clear A120
      obtain rfl := Option.some.inj H
      go_enter Tryz.func170,Tryz.ntmps170
      go_wp2_with (first | ((with_reducible refine q3b (N := 12) rfl ?_); refine Kd.R_make (Kd.int .u32) _ 88 rfl (N := 12) rfl 43 _ _ rfl ji3 rfl rfl Tryz.underlying43 (.int .u32 0) 4 q3a rfl (by decide) (by omega) 0 (ok := fun _ => True) (okp := fun _ => True) rfl (fun _ hk => hk) trivial (od) (Nat.le_trans (Nat.mul_le_mul_right _ (od : ji3.toNat ≤ 70368744177664)) (by omega)) (Below.refl _ _) (Nat.le_refl _) ?_; intro v146 w13 ho14 hb hg_ hnew_; clear hg_ hnew_; (rw [← Ny145.out] at ho14); have HO147 := Aside0.mk (Kd.R_lower ho14 (q0e (hb0 HB))); replace HB := Aside0.mk (q0h (hb0 HB) hb); clear hb ho14; obtain ⟨Ao16,co16,eo16⟩ := Kd.R_slice HO147.out; subst eo16; have q15 : ((ji6) : Int) ≤ ((y145.length : Int) : Int) := od; obtain ⟨i015,hi015,_,hsz15,_⟩ := info_parts q3a; have hroom15 : y145.length ≤ co16 := (Kd.R_reads' HO147.out).2.1; have hC15 : Kd.C (Kd.int .u32) _ Ao16 y145.length y145 := (Kd.R_reads' HO147.out).2.2; have q015 : (0 : Int) ≤ ((ji6) : Int) := od; have hcut15 := qCg (P := Tryz.prog) 43 88 .i64 Tryz.underlying43 hi015 1 hsz15 Ao16 y145.length co16 (ji6) q015 q15; have hr15 := Kd.C_drop (m := ((ji6) : Int).toNat) (c := co16) hC15 (by omega) hroom15; obtain ⟨A15,hA15⟩ : ∃ A1,A1 = (if co16 = ((ji6) : Int).toNat then Ao16 else (Ao16 : Option Addr).map (·.add (((ji6) : Int).toNat * 1))) := ⟨_,rfl⟩; obtain ⟨c15,hc15⟩ : ∃ c1,c1 = co16 - ((ji6) : Int).toNat := ⟨_,rfl⟩; have hy15 : y148.length = y145.length - ((ji6) : Int).toNat := (by rw [Ny148.out,List.length_drop] <;> omega); rw [show (y145).drop ((ji6) : Int).toNat = y148 from Ny148.out.symm] at hr15; replace hr15 : Kd.C (Kd.int .u32) _ A15 y148.length y148 := (by rw [hA15]; exact hr15); rw [← hy15,← hA15,← hc15] at hcut15; have HR151 := Aside0.mk hr15; have HC151 := Aside0.mk (show y148.length ≤ c15 from by rw [hy15,hc15]; exact Nat.sub_le_sub_right hroom15 _); clear hr15 hC15 hroom15 hi015 hsz15 hc15; have KY15 := Aside0.mk hy15; have KA15 := Aside0.mk hA15; clear hy15 hA15; have KL15 := Aside0.mk (show ((ji6) : Int).toNat ≤ y145.length from by omega); replace q15 := eq_true q15) | ((with_reducible refine q1u (b := .copy) (xs := #[.tmp 16,.tmp 17]) rfl ?_); refine Kd.R_copy_cut (enc := (Value.int .u32)) (h1 := fun _ => rfl) (w0 := w) 0 w.heap.size rfl (.tmp 16) (.tmp 17) 43 43 88 rfl Tryz.underlying43 q3a Ao16 y145.length co16 ((ji6) : Int).toNat A15 y148.length c15 y145 l0 _ _ _ (fun _ => True) rfl rfl ?aO ?aA ?aM ?aN ?aR ?aB ?aS ?_; (case aA => exact KA15.out); (case aM => exact KY15.out); (case aN => exact KL15.out); (case aO => exact (rm HO147)); (case aR => exact cb HR0 HB); (case aB => exact (hb0 HB)); (case aS => exact (q0e (hb0 HB))); intro w18 n_ hg hp_ hb; rw [← Ny152.out] at hp_; replace HO147 := Aside0.mk (hp_); replace HB := Aside0.mk (hb); clear hb hg hp_; (try clear hcut15)) | ((with_reducible refine q0b (f := 172) rfl ?_); refine q0u (some 23) rfl rfl Tryz.func172 (by kernel_rfl) rfl #[.slice Ao16 y152.length co16,.int .u32 ji11] rfl (by (try simp only [List.map_toArray,List.map_cons,List.map_nil]); (rw [show y152.length = y145.length from (Kd.R_reads' HO147.out).1.symm] <;> rfl)) ?_; (with_reducible refine (q3r.calls k _ _ y152 ji11 t153 _ ?side1 ?side2 A12.out).mono ?_); (case side1 => exact cr HO147); (case side2 => rw [show y152.length = y145.length from (Kd.R_reads' HO147.out).1.symm]; exact (Kd.R_reads' HO147.out).2.1); rintro e w20 ⟨v154,rfl,ho0,hb⟩; refine ⟨_,rfl,?_⟩; have HO155 := Aside0.mk (Kd.R_lower (Kd.R_new' ho0 (Kd.R_lt (rm HO147))) (q0e (hb0 HB))); replace HO147 := Aside0.mk (Kd.R_elder' (rm HO147) (Kd.R_base ho0) hb); replace HB := Aside0.mk (q0h (hb0 HB) hb)))
      go_ret
      exact ⟨_,by rfl,by (with_reducible repeat (apply Kd.R_drew)); exact Kd.R_mono HO155.out (fun _ hk => trivial),hb0 HB⟩
     ·rw [if_neg c10] at H
      cases H
    ·rw [if_neg c8] at H
     cases H
   ·rw [if_neg c7] at H
    cases H
  ·rw [if_neg c5] at H
   cases H
 ·rw [if_neg c4] at H
  cases H
def q2v.l0 : Nat → Int → List Int → Int → Int → Option (List Int)
 | 0,_,_,_,_ => none
 | k + 1,x1,x5,x20,x21 => if x21 < x20 then (if (wrap64 (x21 + 1)) < (x5.length : Int) then (if 0 ≤ (wrap64 (x21 + 1)) then (if 0 ≤ x21 then (if x21 < (x5.length : Int) then (if 0 ≤ (Int.tmod x1 32) then (q2v.l0 k x1 (x5.set (x21 : Int).toNat ((shr .u64 (Go.bits .or .u64 (IntKind.u64.wrap ((IntKind.u64.wrap (rd x5 (wrap64 (x21 + 1)))) * 4294967296)) (IntKind.u64.wrap (rd x5 x21))) (Int.tmod x1 32)) % 4294967296)) x20 (wrap64 (x21 + 1))) else (none)) else (none)) else (none)) else (none)) else (if 0 ≤ x21 then (if x21 < (x5.length : Int) then (if 0 ≤ (Int.tmod x1 32) then (q2v.l0 k x1 (x5.set (x21 : Int).toNat ((shr .u64 (Go.bits .or .u64 0 (IntKind.u64.wrap (rd x5 x21))) (Int.tmod x1 32)) % 4294967296)) x20 (wrap64 (x21 + 1))) else (none)) else (none)) else (none))) else ((q1a.f k x5).bind fun t168 => (some t168))
def q2v.f (k : Nat) (l0 : List Int) (a1 : Int) : Option (List Int) := if (wrap64 (Int.tdiv a1 32)) ≥ (l0.length : Int) then (some (([] : List Int))) else (if 0 ≤ (wrap64 (Int.tdiv a1 32)) then (if (wrap64 (Int.tdiv a1 32)) ≤ (l0.length : Int) then ((q1a.f k (l0.drop ((wrap64 (Int.tdiv a1 32)) : Int).toNat)).bind fun t160 => (q2v.l0 k a1 t160 (t160.length : Int) 0)) else (none)) else (none))
theorem q2v.calls (k : Nat) (A0 : Option Addr) (c0 : Nat) (l0 : List Int) (a1 : Int) (r : List Int) (w : World) (hr0 : Kd.C (Kd.int .u32) w A0 l0.length l0) (hc0 : l0.length ≤ c0) (h : q2v.f k l0 a1 = some r) :
  Calls Tryz.prog 171 #[.slice A0 l0.length c0,.int .i64 a1] w fun e w' => ∃ v0_ : Value,e = .returned (v0_) ∧ Kd.R (Kd.int .u32) 88 w' w.heap.size (fun _ => True) v0_ r ∧ Below w.heap.size w w' := by
 have HR0 := Aside0.mk hr0
 have HC0 := Aside0.mk hc0
 clear hr0 hc0
 have HB := Aside0.mk (Below.refl w.heap.size w)
 have H := h
 unfold q2v.f at H
 clear h
 by_cases c3 : (wrap64 (Int.tdiv a1 32)) ≥ (l0.length : Int)
 ·rw [if_pos c3] at H
  have c3b0 : decide ((l0.length : Int) ≤ (wrap64 (Int.tdiv a1 32))) = true := decide_eq_true c3
  obtain ⟨y156,hy156⟩ : ∃ y_ : List Int,y_ = (([] : List Int)) := ⟨_,rfl⟩
  rw [← hy156] at H
  have Ny156 := Aside0.mk hy156
  clear hy156
  obtain rfl := Option.some.inj H
  go_enter Tryz.func171,Tryz.ntmps171
  go_wp2_with (((with_reducible refine q3b (N := 13) rfl ?_); refine Kd.R_lit (Kd.int .u32) _ 88 ?hg (N := 13) ?hd (xs := ([] : List Int)) (inner := []) (ok := fun _ => True) (okp := fun _ => True) ?hr ?hp (fun _ hk => hk) trivial (Below.refl _ _) (Nat.le_refl _) (by simp) ?_; (case hd => rfl); (case hg => rfl); (case hr => (go_simp; done)); (case hp => exact (Reps.none _ _)); intro v157 w4 ho5 hb hg_ hnew_; clear hg_ hnew_; (rw [← Ny156.out] at ho5); have HO158 := Aside0.mk (Kd.R_lower ho5 (q0e (hb0 HB))); replace HB := Aside0.mk (q0h (hb0 HB) hb); clear hb ho5))
  go_ret
  exact ⟨_,by rfl,rm HO158,hb0 HB⟩
 ·rw [if_neg c3] at H
  have c3b0 : decide ((l0.length : Int) ≤ (wrap64 (Int.tdiv a1 32))) = false := decide_eq_false c3
  obtain ⟨ji6,hji6⟩ : ∃ j_ : Int,(wrap64 (Int.tdiv a1 32)) = j_ := ⟨_,rfl⟩
  rw [hji6] at H
  (try rw [hji6] at c3b0)
  have hji6w : (IntKind.i64.wrap (Int.tdiv a1 32)) = ji6 := (q4i _).trans hji6
  by_cases c7 : 0 ≤ (ji6)
  ·rw [if_pos c7] at H
   have c7b0 := eq_true c7
   have c7b1 : decide (0 ≤ (ji6)) = true := decide_eq_true c7
   by_cases c8 : (ji6) ≤ (l0.length : Int)
   ·rw [if_pos c8] at H
    have c8b0 := eq_true c8
    have c8b1 : decide ((ji6) ≤ (l0.length : Int)) = true := decide_eq_true c8
    obtain ⟨t160,A90,H⟩ := bs H
    have A9 := Aside0.mk A90
    clear A90
    have H' := Aside0.mk H
    clear H
    obtain ⟨i010,hi010,_,hsz10,_⟩ := info_parts q3a
    obtain ⟨A10,hcut10,hA10,hC10⟩ := qGs (P := Tryz.prog) (Value.int .u32) 0 43 88 .i64 Tryz.underlying43 hi010 hsz10 A0 c0 l0 (ji6) (od) (od) HC0.out
    have HR159 := Aside0.mk (Kd.C_of_reads (h1 := fun _ => rfl) (hA10 _ (Kd.reads_of_C HR0.out)))
    have HC159 := Aside0.mk hC10
    clear hA10 hC10 hi010 hsz10
    go_enter Tryz.func171,Tryz.ntmps171
    go_wp2_with (((with_reducible refine q0b (f := 133) rfl ?_); refine q0u (some 18) rfl rfl Tryz.func133 (by kernel_rfl) rfl #[.slice A10 (l0.drop ((ji6) : Int).toNat).length (c0 - (ji6).toNat)] rfl (by (try simp only [List.map_toArray,List.map_cons,List.map_nil]); (rw [show (l0.drop ((ji6) : Int).toNat).length = (l0.length - (ji6).toNat) from List.length_drop] <;> rfl)) ?_; (with_reducible refine (q1a.calls k _ _ (l0.drop ((ji6) : Int).toNat) t160 _ ?side1 ?side2 A9.out).mono ?_); (case side1 => repeat (exact HR159.out)); (case side2 => exact HC159.out); rintro e w11 ⟨v161,rfl,ho0,hb⟩; refine ⟨_,rfl,?_⟩; have HO162 := Aside0.mk (Kd.R_lower ho0 (q0e (hb0 HB))); replace HB := Aside0.mk (q0h (hb0 HB) hb); obtain ⟨Ao12,co12,eo12⟩ := Kd.R_slice HO162.out; subst eo12))
    go_loopg [21] k (fun kq v21 w' => ∃ (x5_1 : List Int) (x21_1 : Int),v21 = .int .i64 x21_1 ∧ Aside0 (q2v.l0 kq a1 x5_1 (t160.length : Int) x21_1 = some r) ∧ Aside0 (kq ≤ k) ∧ Aside0 (Kd.R (Kd.int .u32) 88 w' w.heap.size (fun _ => True) (.slice Ao12 t160.length co12) x5_1) ∧ Aside0 (Below w.heap.size w w'))
    case atStart => exact ⟨(t160),(0),(by rfl),H',⟨Nat.le_refl _⟩,⟨rm HO162⟩,⟨hb0 HB⟩⟩
    case round =>
     clear H'
     obtain ⟨x5_1,x21_1,rfl,HA,HK1,HO_5,HB⟩ := hrel
     have hl5_1 := (Kd.R_reads' HO_5.out).1
     rw [hl5_1] at HO_5
     (try simp only [hl5_1])
     cases gk with
     | zero => exact absurd HA.out (by simp [q2v.l0])
     | succ k1 =>
      have H := HA.out
      clear HA
      simp only [q2v.l0] at H
      by_cases c13 : x21_1 < (t160.length : Int)
      ·rw [if_pos c13] at H
       have c13b0 : decide (x21_1 < (t160.length : Int)) = true := decide_eq_true c13
       (try simp only [hl5_1] at c13b0)
       by_cases c14 : (wrap64 (x21_1 + 1)) < (x5_1.length : Int)
       ·rw [if_pos c14] at H
        have c14b0 : decide ((wrap64 (x21_1 + 1)) < (x5_1.length : Int)) = true := decide_eq_true c14
        (try simp only [hl5_1] at c14b0)
        obtain ⟨ji15,hji15⟩ : ∃ j_ : Int,(wrap64 (x21_1 + 1)) = j_ := ⟨_,rfl⟩
        rw [hji15] at H
        (try rw [hji15] at c14b0)
        have hji15w : (IntKind.i64.wrap (x21_1 + 1)) = ji15 := (q4i _).trans hji15
        by_cases c16 : 0 ≤ (ji15)
        ·rw [if_pos c16] at H
         have c16b0 : decide (0 ≤ (ji15)) = true := decide_eq_true c16
         by_cases c17 : 0 ≤ x21_1
         ·rw [if_pos c17] at H
          have c17b0 : decide (0 ≤ x21_1) = true := decide_eq_true c17
          by_cases c18 : x21_1 < (x5_1.length : Int)
          ·rw [if_pos c18] at H
           have c18b0 : decide (x21_1 < (x5_1.length : Int)) = true := decide_eq_true c18
           (try simp only [hl5_1] at c18b0)
           obtain ⟨ji19,hji19⟩ : ∃ j_ : Int,(Int.tmod a1 32) = j_ := ⟨_,rfl⟩
           rw [hji19] at H
           by_cases c20 : 0 ≤ (ji19)
           ·rw [if_pos c20] at H
            have c20b0 := eq_true c20
            have c20b1 : decide (0 ≤ (ji19)) = true := decide_eq_true c20
            obtain ⟨ji21,hji21⟩ : ∃ j_ : Int,(shr .u64 (Go.bits .or .u64 (IntKind.u64.wrap ((IntKind.u64.wrap (rd x5_1 (ji15))) * 4294967296)) (IntKind.u64.wrap (rd x5_1 x21_1))) (ji19)) = j_ := ⟨_,rfl⟩
            rw [hji21] at H
            have hji21_ : ((Go.bits .or .u64 (IntKind.u64.wrap ((IntKind.u64.wrap (rd x5_1 (ji15))) * 4294967296)) (IntKind.u64.wrap (rd x5_1 x21_1))) / 2 ^ min (ji19).toNat 64) = ji21 := hji21
            have hji21z : (ji19) ≤ 64 → ((Go.bits .or .u64 (IntKind.u64.wrap ((IntKind.u64.wrap (rd x5_1 (ji15))) * 4294967296)) (IntKind.u64.wrap (rd x5_1 x21_1))) / 2 ^ (ji19).toNat) = ji21 := q7e hji21
            obtain ⟨y165,hy165⟩ : ∃ y_ : List Int,y_ = (x5_1.set (x21_1 : Int).toNat ((ji21) % 4294967296)) := ⟨_,rfl⟩
            rw [← hy165] at H
            have Ny165 := Aside0.mk hy165
            clear hy165
            have H' := Aside0.mk H
            clear H
            have p163 : 0 ≤ ((ji15) : Int) := od
            have q163 : (ji15) < (x5_1.length : Int) := od
            obtain ⟨ad163,e163,hx163_0⟩ := Kd.at_int (Kd.R_reads' HO_5.out).2.2 (ji15) p163 q163
            cases e163
            replace p163 := eq_true p163
            replace q163 := eq_true q163
            have p164 : 0 ≤ (x21_1 : Int) := od
            have q164 : x21_1 < (x5_1.length : Int) := od
            obtain ⟨ad164,e164,hx164_0⟩ := Kd.at_int (Kd.R_reads' HO_5.out).2.2 x21_1 p164 q164
            obtain rfl : ad163 = ad164 := (by injection e164)
            replace p164 := eq_true p164
            replace q164 := eq_true q164
            have p22 : 0 ≤ (x21_1 : Int) := od
            have q22 : (x21_1 : Int) < ((x5_1.length : Int) : Int) := od
            obtain ⟨go22,co22,eo22,gb22,gl22,cl22,HG22⟩ := Kd.R_form HO_5.out (by omega)
            (cases eo22)
            have GB22 := Aside0.mk gb22
            have GG22 := Aside0.mk HG22
            clear gb22 gl22 HG22
            (simp only [q5l] at hx163_0)
            (simp only [q5l] at hx164_0)
            obtain ⟨hx22_0,hf22_0⟩ := Kd.R_celln 0 HO_5.out (x21_1 : Int) p22 q22
            replace p22 := eq_true p22
            replace q22 := eq_true q22
            have HP23 := Kd.R_putg HO_5.out (x21_1 : Int) ((ji21) % 4294967296)
            go_wp2_with (((with_reducible refine q5c (t := 88) (p := 49) rfl ?_); refine q4m (t := 88) (p := 49) (v := ?vo_w24) (w1 := (wr.setCell ⟨go22,(x21_1 : Int).toNat,none⟩ (.int .u32 ((ji21) % 4294967296)))) ?hg ?ho ?hn ?hr ?_; (case ho => rfl); (case hg => rfl); (case hn => rfl); (case hr => (go_simp; done)); intro w24 hw; have hg : wr.grownBy w24 (some go22) := (by rw [hw]; exact HP23.2); have hp_ : Kd.R (Kd.int .u32) 88 w24 w.heap.size (fun _ => True) (.slice (some ⟨go22,0,none⟩) x5_1.length co12) y165 := (by rw [hw,Ny165.out]; exact HP23.1); clear HP23; replace HO_5 := Aside0.mk (hp_); replace HB := Aside0.mk ((by rw [hw]; exact q2s (HB.out) GB22.out : Below w.heap.size w w24)); clear hg hw hp_))
            (try simp only [← hl5_1])
            go_roundg k1
            case measure => have := HK1.out; omega
            case rel => exact ⟨(y165),(ji15),(by rfl),H',⟨by have := HK1.out; omega⟩,⟨by (try simp only [hl5_1]); (with_reducible repeat (apply Kd.R_drew)); exact HO_5.out⟩,⟨hb0 HB⟩⟩
           ·rw [if_neg c20] at H
            cases H
          ·rw [if_neg c18] at H
           cases H
         ·rw [if_neg c17] at H
          cases H
        ·rw [if_neg c16] at H
         cases H
       ·rw [if_neg c14] at H
        have c14b0 : decide ((wrap64 (x21_1 + 1)) < (x5_1.length : Int)) = false := decide_eq_false c14
        (try simp only [hl5_1] at c14b0)
        by_cases c25 : 0 ≤ x21_1
        ·rw [if_pos c25] at H
         have c25b0 : decide (0 ≤ x21_1) = true := decide_eq_true c25
         by_cases c26 : x21_1 < (x5_1.length : Int)
         ·rw [if_pos c26] at H
          have c26b0 : decide (x21_1 < (x5_1.length : Int)) = true := decide_eq_true c26
          (try simp only [hl5_1] at c26b0)
          obtain ⟨ji27,hji27⟩ : ∃ j_ : Int,(Int.tmod a1 32) = j_ := ⟨_,rfl⟩
          rw [hji27] at H
          by_cases c28 : 0 ≤ (ji27)
          ·rw [if_pos c28] at H
           have c28b0 := eq_true c28
           have c28b1 : decide (0 ≤ (ji27)) = true := decide_eq_true c28
           obtain ⟨ji29,hji29⟩ : ∃ j_ : Int,(shr .u64 (Go.bits .or .u64 0 (IntKind.u64.wrap (rd x5_1 x21_1))) (ji27)) = j_ := ⟨_,rfl⟩
           rw [hji29] at H
           have hji29_ : ((Go.bits .or .u64 0 (IntKind.u64.wrap (rd x5_1 x21_1))) / 2 ^ min (ji27).toNat 64) = ji29 := hji29
           have hji29z : (ji27) ≤ 64 → ((Go.bits .or .u64 0 (IntKind.u64.wrap (rd x5_1 x21_1))) / 2 ^ (ji27).toNat) = ji29 := q7e hji29
           obtain ⟨y167,hy167⟩ : ∃ y_ : List Int,y_ = (x5_1.set (x21_1 : Int).toNat ((ji29) % 4294967296)) := ⟨_,rfl⟩
           rw [← hy167] at H
           have Ny167 := Aside0.mk hy167
           clear hy167
           have H' := Aside0.mk H
           clear H
           have p166 : 0 ≤ (x21_1 : Int) := od
           have q166 : x21_1 < (x5_1.length : Int) := od
           obtain ⟨ad166,e166,hx166_0⟩ := Kd.at_int (Kd.R_reads' HO_5.out).2.2 x21_1 p166 q166
           cases e166
           replace p166 := eq_true p166
           replace q166 := eq_true q166
           have p30 : 0 ≤ (x21_1 : Int) := od
           have q30 : (x21_1 : Int) < ((x5_1.length : Int) : Int) := od
           obtain ⟨go30,co30,eo30,gb30,gl30,cl30,HG30⟩ := Kd.R_form HO_5.out (by omega)
           (cases eo30)
           have GB30 := Aside0.mk gb30
           have GG30 := Aside0.mk HG30
           clear gb30 gl30 HG30
           (simp only [q5l] at hx166_0)
           obtain ⟨hx30_0,hf30_0⟩ := Kd.R_celln 0 HO_5.out (x21_1 : Int) p30 q30
           replace p30 := eq_true p30
           replace q30 := eq_true q30
           have HP31 := Kd.R_putg HO_5.out (x21_1 : Int) ((ji29) % 4294967296)
           go_wp2_with (((with_reducible refine q5c (t := 88) (p := 49) rfl ?_); refine q4m (t := 88) (p := 49) (v := ?vo_w32) (w1 := (wr.setCell ⟨go30,(x21_1 : Int).toNat,none⟩ (.int .u32 ((ji29) % 4294967296)))) ?hg ?ho ?hn ?hr ?_; (case ho => rfl); (case hg => rfl); (case hn => rfl); (case hr => (go_simp; done)); intro w32 hw; have hg : wr.grownBy w32 (some go30) := (by rw [hw]; exact HP31.2); have hp_ : Kd.R (Kd.int .u32) 88 w32 w.heap.size (fun _ => True) (.slice (some ⟨go30,0,none⟩) x5_1.length co12) y167 := (by rw [hw,Ny167.out]; exact HP31.1); clear HP31; replace HO_5 := Aside0.mk (hp_); replace HB := Aside0.mk ((by rw [hw]; exact q2s (HB.out) GB30.out : Below w.heap.size w w32)); clear hg hw hp_))
           (try simp only [← hl5_1])
           go_roundg k1
           case measure => have := HK1.out; omega
           case rel => exact ⟨(y167),(wrap64 (x21_1 + 1)),(by rfl),H',⟨by have := HK1.out; omega⟩,⟨by (try simp only [hl5_1]); (with_reducible repeat (apply Kd.R_drew)); exact HO_5.out⟩,⟨hb0 HB⟩⟩
          ·rw [if_neg c28] at H
           cases H
         ·rw [if_neg c26] at H
          cases H
        ·rw [if_neg c25] at H
         cases H
      ·rw [if_neg c13] at H
       have c13b0 : decide (x21_1 < (t160.length : Int)) = false := decide_eq_false c13
       (try simp only [hl5_1] at c13b0)
       obtain ⟨t168,A330,H⟩ := bs H
       have A33 := Aside0.mk A330
       clear A330
       obtain rfl := Option.some.inj H
       go_wp2_with (((with_reducible refine q0b (f := 133) rfl ?_); refine q0u (some 52) rfl rfl Tryz.func133 (by kernel_rfl) rfl #[.slice Ao12 x5_1.length co12] rfl (ml) ?_; (with_reducible refine (q1a.calls k1 _ _ x5_1 t168 _ ?side1 ?side2 A33.out).mono ?_); (case side1 => exact cr HO_5); (case side2 => exact (Kd.R_reads' HO_5.out).2.1); rintro e w34 ⟨v169,rfl,ho0,hb⟩; refine ⟨_,rfl,?_⟩; have HO170 := Aside0.mk (Kd.R_lower (Kd.R_new' ho0 (Kd.R_lt (rm HO_5))) (q0e (hb0 HB))); replace HO_5 := Aside0.mk (Kd.R_elder' (rm HO_5) (Kd.R_base ho0) hb); replace HB := Aside0.mk (q0h (hb0 HB) hb)))
       go_ret
       exact ⟨_,by rfl,by (with_reducible repeat (apply Kd.R_drew)); exact Kd.R_mono HO170.out (fun _ hk => trivial),hb0 HB⟩
   ·rw [if_neg c8] at H
    cases H
  ·rw [if_neg c7] at H
   cases H
def q2t.f (k : Nat) (l0 : List Int) (a1 : Int) : Option (List Int) := if a1 ≥ 0 then ((qCw.f k l0 (mn a1 8192)).bind fun t171 => (some t171)) else (if a1 < (-8192) then (some (([] : List Int))) else ((q2v.f k l0 (wrap64 (-a1))).bind fun t177 => (some t177)))
theorem q2t.calls (k : Nat) (A0 : Option Addr) (c0 : Nat) (l0 : List Int) (a1 : Int) (r : List Int) (w : World) (hr0 : Kd.C (Kd.int .u32) w A0 l0.length l0) (hc0 : l0.length ≤ c0) (h : q2t.f k l0 a1 = some r) :
  Calls Tryz.prog 155 #[.slice A0 l0.length c0,.int .i64 a1] w fun e w' => ∃ v0_ : Value,e = .returned (v0_) ∧ Kd.R (Kd.int .u32) 88 w' w.heap.size (fun _ => True) v0_ r ∧ Below w.heap.size w w' := by
 have HR0 := Aside0.mk hr0
 have HC0 := Aside0.mk hc0
 clear hr0 hc0
 have HB := Aside0.mk (Below.refl w.heap.size w)
 have H := h
 unfold q2t.f at H
 clear h
 by_cases c3 : a1 ≥ 0
 ·rw [if_pos c3] at H
  have c3b0 : decide (0 ≤ a1) = true := decide_eq_true c3
  clear c3
  obtain ⟨ji4,hji4⟩ : ∃ j_ : Int,(mn a1 8192) = j_ := ⟨_,rfl⟩
  rw [hji4] at H
  (try (have hji4h : ji4 ≤ 8192 := by (rw [← hji4]; unfold mn; (repeat' split) <;> omega)))
  (try (have hji4g : ji4 ≤ 64 := by omega))
  have hji4_ : (if 8192 < a1 then 8192 else a1) = ji4 := hji4
  obtain ⟨t171,A50,H⟩ := bs H
  have A5 := Aside0.mk A50
  clear A50
  obtain rfl := Option.some.inj H
  go_enter Tryz.func155,Tryz.ntmps155
  go_wp2_with (((with_reducible refine q0b (f := 170) rfl ?_); refine q0u (some 11) rfl rfl Tryz.func170 (by kernel_rfl) rfl #[.slice A0 l0.length c0,.int .i64 ji4] rfl (by (try simp only [List.map_toArray,List.map_cons,List.map_nil]); rfl) ?_; (with_reducible refine (qCw.calls k _ _ l0 ji4 t171 _ ?side1 ?side2 A5.out).mono ?_); (case side1 => repeat (exact HR0.out)); (case side2 => exact HC0.out); rintro e w6 ⟨v172,rfl,ho0,hb⟩; refine ⟨_,rfl,?_⟩; have HO173 := Aside0.mk (Kd.R_lower ho0 (q0e (hb0 HB))); replace HB := Aside0.mk (q0h (hb0 HB) hb)))
  go_ret
  exact ⟨_,by rfl,rm HO173,hb0 HB⟩
 ·rw [if_neg c3] at H
  have c3b0 : decide (0 ≤ a1) = false := decide_eq_false c3
  clear c3
  by_cases c7 : a1 < (-8192)
  ·rw [if_pos c7] at H
   have c7b0 : decide (a1 < (-8192)) = true := decide_eq_true c7
   clear c7
   obtain ⟨y174,hy174⟩ : ∃ y_ : List Int,y_ = (([] : List Int)) := ⟨_,rfl⟩
   rw [← hy174] at H
   have Ny174 := Aside0.mk hy174
   clear hy174
   obtain rfl := Option.some.inj H
   go_enter Tryz.func155,Tryz.ntmps155
   go_wp2_with (((with_reducible refine q3b (N := 15) rfl ?_); refine Kd.R_lit (Kd.int .u32) _ 88 ?hg (N := 15) ?hd (xs := ([] : List Int)) (inner := []) (ok := fun _ => True) (okp := fun _ => True) ?hr ?hp (fun _ hk => hk) trivial (Below.refl _ _) (Nat.le_refl _) (by simp) ?_; (case hd => rfl); (case hg => rfl); (case hr => (go_simp; done)); (case hp => exact (Reps.none _ _)); intro v175 w8 ho9 hb hg_ hnew_; clear hg_ hnew_; (rw [← Ny174.out] at ho9); have HO176 := Aside0.mk (Kd.R_lower ho9 (q0e (hb0 HB))); replace HB := Aside0.mk (q0h (hb0 HB) hb); clear hb ho9))
   go_ret
   exact ⟨_,by rfl,rm HO176,hb0 HB⟩
  ·rw [if_neg c7] at H
   have c7b0 : decide (a1 < (-8192)) = false := decide_eq_false c7
   clear c7
   obtain ⟨t177,A100,H⟩ := bs H
   have A10 := Aside0.mk A100
   clear A100
   obtain rfl := Option.some.inj H
   go_enter Tryz.func155,Tryz.ntmps155
   go_wp2_with (((with_reducible refine q0b (f := 171) rfl ?_); refine q0u (some 19) rfl rfl Tryz.func171 (by kernel_rfl) rfl #[.slice A0 l0.length c0,.int .i64 (wrap64 (-a1))] rfl (ml) ?_; (with_reducible refine (q2v.calls k _ _ l0 (wrap64 (-a1)) t177 _ ?side1 ?side2 A10.out).mono ?_); (case side1 => repeat (exact HR0.out)); (case side2 => exact HC0.out); rintro e w11 ⟨v178,rfl,ho0,hb⟩; refine ⟨_,rfl,?_⟩; have HO179 := Aside0.mk (Kd.R_lower ho0 (q0e (hb0 HB))); replace HB := Aside0.mk (q0h (hb0 HB) hb)))
   go_ret
   exact ⟨_,by rfl,rm HO179,hb0 HB⟩
def q2k.l0 : Nat → List Int → List Int → Int → Option (List Int × Int)
 | 0,_,_,_ => none
 | k + 1,x0,x1,x2 => (q3r.f k x1 x2).bind fun t203 => ((q1s.f k x0 t203).bind fun bt206 => (if bt206.2 = true then (some (bt206.1,x2)) else (q2k.l0 k x0 x1 ((x2 - 1) % 4294967296))))
def q2k.f (k : Nat) (l0 : List Int) (l1 : List Int) (a2 : Int) : Option (List Int × Int) := q2k.l0 k l0 l1 a2
theorem q2k.calls (k : Nat) (A0 : Option Addr) (c0 : Nat) (l0 : List Int) (A1 : Option Addr) (c1 : Nat) (l1 : List Int) (a2 : Int) (r1 : List Int) (r2 : Int) (w : World) (hr0 : Kd.C (Kd.int .u32) w A0 l0.length l0) (hc0 : l0.length ≤ c0) (hr1 : Kd.C (Kd.int .u32) w A1 l1.length l1) (hc1 : l1.length ≤ c1) (h : q2k.f k l0 l1 a2 = some (r1,r2)) :
  Calls Tryz.prog 156 #[.slice A0 l0.length c0,.slice A1 l1.length c1,.int .u32 a2] w fun e w' => ∃ v0_ : Value,e = .returned (.tuple #[v0_,.int .u32 r2]) ∧ Kd.R (Kd.int .u32) 88 w' w.heap.size (fun _ => True) v0_ r1 ∧ Below w.heap.size w w' := by
 have HR0 := Aside0.mk hr0
 have HC0 := Aside0.mk hc0
 clear hr0 hc0
 have HR1 := Aside0.mk hr1
 have HC1 := Aside0.mk hc1
 clear hr1 hc1
 have HB := Aside0.mk (Below.refl w.heap.size w)
 have H : (q2k.l0 k l0 l1 a2) = some (r1,r2) := h
 clear h
 have H' := Aside0.mk H
 clear H
 go_enter Tryz.func156,Tryz.ntmps156
 go_wp2
 go_loopg [2] k (fun kq v2 w' => ∃ (x2_1 : Int),v2 = .int .u32 x2_1 ∧ Aside0 (q2k.l0 kq l0 l1 x2_1 = some (r1,r2)) ∧ Aside0 (kq ≤ k) ∧ Aside0 (Below w.heap.size w w'))
 case atStart => exact ⟨(a2),(by rfl),H',⟨Nat.le_refl _⟩,⟨hb0 HB⟩⟩
 case round =>
  clear H'
  obtain ⟨x2_1,rfl,HA,HK1,HB⟩ := hrel
  cases gk with
  | zero => exact absurd HA.out (by simp [q2k.l0])
  | succ k1 =>
   have H := HA.out
   clear HA
   simp only [q2k.l0] at H
   obtain ⟨t203,A40,H⟩ := bs H
   have A4 := Aside0.mk A40
   clear A40
   replace H := Option.bind_eq_some_iff.mp H
   obtain ⟨⟨t206,t207⟩,A50,H⟩ := H
   replace H : (if t207 = true then (some (t206,x2_1)) else (q2k.l0 k1 l0 l1 ((x2_1 - 1) % 4294967296))) = some (r1,r2) := H
   have A5 := Aside0.mk A50
   clear A50
   by_cases c6 : t207 = true
   ·subst c6
    have H1 : (some (t206,x2_1)) = some (r1,r2) := by rw [if_pos rfl] at H; exact H
    clear H
    have H := H1
    clear H1
    simp only [Option.some.injEq,Prod.mk.injEq] at H
    obtain ⟨rfl,rfl⟩ := H
    go_wp2_with (first | ((with_reducible refine q0b (f := 172) rfl ?_); refine q0u (some 14) rfl rfl Tryz.func172 (by kernel_rfl) rfl #[.slice A1 l1.length c1,.int .u32 x2_1] rfl (ml) ?_; (with_reducible refine (q3r.calls k1 _ _ l1 x2_1 t203 _ ?side1 ?side2 A4.out).mono ?_); (case side1 => exact cb HR1 HB); (case side2 => exact HC1.out); rintro e w7 ⟨v204,rfl,ho0,hb⟩; refine ⟨_,rfl,?_⟩; have HO205 := Aside0.mk (Kd.R_lower ho0 (q0e (hb0 HB))); replace HB := Aside0.mk (q0h (hb0 HB) hb); obtain ⟨Ao8,co8,eo8⟩ := Kd.R_slice HO205.out; subst eo8) | ((with_reducible refine q0b (f := 144) rfl ?_); refine q0u (some 15) rfl rfl Tryz.func144 (by kernel_rfl) rfl #[.slice A0 l0.length c0,.slice Ao8 t203.length co8] rfl (ml) ?_; (with_reducible refine (q1s.calls k1 _ _ l0 _ _ t203 t206 true _ ?side1 ?side2 ?side3 ?side4 A5.out).mono ?_); (case side1 => exact cb HR0 HB); (case side2 => exact HC0.out); (case side3 => exact cr HO205); (case side4 => exact (Kd.R_reads' HO205.out).2.1); rintro e w9 ⟨v208,rfl,ho0,hb⟩; refine ⟨_,rfl,?_⟩; have HO209 := Aside0.mk (Kd.R_lower (Kd.R_new' ho0 (Kd.R_lt (rm HO205))) (q0e (hb0 HB))); replace HO205 := Aside0.mk (Kd.R_elder' (rm HO205) (Kd.R_base ho0) hb); replace HB := Aside0.mk (q0h (hb0 HB) hb)))
    go_ret2
    exact ⟨_,by rfl,by (with_reducible repeat (apply Kd.R_drew)); exact Kd.R_mono HO209.out (fun _ hk => trivial),hb0 HB⟩
   ·replace c6 := Bool.eq_false_iff.mpr c6
    subst c6
    have H1 : (q2k.l0 k1 l0 l1 ((x2_1 - 1) % 4294967296)) = some (r1,r2) := by rw [if_neg (show ¬ (false = true) by decide)] at H; exact H
    clear H
    have H := H1
    clear H1
    have H' := Aside0.mk H
    clear H
    go_wp2_with (first | ((with_reducible refine q0b (f := 172) rfl ?_); refine q0u (some 14) rfl rfl Tryz.func172 (by kernel_rfl) rfl #[.slice A1 l1.length c1,.int .u32 x2_1] rfl (ml) ?_; (with_reducible refine (q3r.calls k1 _ _ l1 x2_1 t203 _ ?side1 ?side2 A4.out).mono ?_); (case side1 => exact cb HR1 HB); (case side2 => exact HC1.out); rintro e w10 ⟨v204,rfl,ho0,hb⟩; refine ⟨_,rfl,?_⟩; have HO205 := Aside0.mk (Kd.R_lower ho0 (q0e (hb0 HB))); replace HB := Aside0.mk (q0h (hb0 HB) hb); obtain ⟨Ao11,co11,eo11⟩ := Kd.R_slice HO205.out; subst eo11) | ((with_reducible refine q0b (f := 144) rfl ?_); refine q0u (some 15) rfl rfl Tryz.func144 (by kernel_rfl) rfl #[.slice A0 l0.length c0,.slice Ao11 t203.length co11] rfl (ml) ?_; (with_reducible refine (q1s.calls k1 _ _ l0 _ _ t203 t206 false _ ?side1 ?side2 ?side3 ?side4 A5.out).mono ?_); (case side1 => exact cb HR0 HB); (case side2 => exact HC0.out); (case side3 => exact cr HO205); (case side4 => exact (Kd.R_reads' HO205.out).2.1); rintro e w12 ⟨v208,rfl,ho0,hb⟩; refine ⟨_,rfl,?_⟩; have HO209 := Aside0.mk (Kd.R_lower (Kd.R_new' ho0 (Kd.R_lt (rm HO205))) (q0e (hb0 HB))); replace HO205 := Aside0.mk (Kd.R_elder' (rm HO205) (Kd.R_base ho0) hb); replace HB := Aside0.mk (q0h (hb0 HB) hb)))
    go_roundg k1
    case measure => have := HK1.out; omega
    case rel => exact ⟨((x2_1 - 1) % 4294967296),(by rfl),H',⟨by have := HK1.out; omega⟩,⟨hb0 HB⟩⟩
def q4y.f (l0 : List Int) (l1 : List Int) : Option (Int) := if 0 ≤ (l1.length : Int) then (if (l1.length : Int) < (l0.length : Int) then (if 0 ≤ (wrap64 ((l1.length : Int) - 1)) then (if (wrap64 ((l1.length : Int) - 1)) < (l0.length : Int) then (if (wrap64 ((l1.length : Int) - 1)) < (l1.length : Int) then (if (IntKind.u64.wrap (rd l1 (wrap64 ((l1.length : Int) - 1)))) = 0 then (none) else (some ((mn (IntKind.u64.wrap (Int.tdiv (Go.bits .or .u64 (IntKind.u64.wrap ((IntKind.u64.wrap (rd l0 (l1.length : Int))) * 4294967296)) (IntKind.u64.wrap (rd l0 (wrap64 ((l1.length : Int) - 1))))) (IntKind.u64.wrap (rd l1 (wrap64 ((l1.length : Int) - 1)))))) 4294967295) % 4294967296))) else (none)) else (none)) else (none)) else (none)) else (none)
theorem q4y.calls (A0 : Option Addr) (c0 : Nat) (l0 : List Int) (A1 : Option Addr) (c1 : Nat) (l1 : List Int) (r : Int) (w : World) (hr0 : Kd.C (Kd.int .u32) w A0 l0.length l0) (hc0 : l0.length ≤ c0) (hr1 : Kd.C (Kd.int .u32) w A1 l1.length l1) (hc1 : l1.length ≤ c1) (h : q4y.f l0 l1 = some r) :
  Calls Tryz.prog 157 #[.slice A0 l0.length c0,.slice A1 l1.length c1] w fun e w' => e = .returned (.int .u32 r) ∧ Below w.heap.size w w' := by
 have HR0 := Aside0.mk hr0
 have HC0 := Aside0.mk hc0
 clear hr0 hc0
 have HR1 := Aside0.mk hr1
 have HC1 := Aside0.mk hc1
 clear hr1 hc1
 have HB := Aside0.mk (Below.refl w.heap.size w)
 have H := h
 unfold q4y.f at H
 clear h
 by_cases c3 : 0 ≤ (l1.length : Int)
 ·rw [if_pos c3] at H
  have c3b0 : decide (0 ≤ (l1.length : Int)) = true := decide_eq_true c3
  have c3b1 : decide (0 ≤ l1.length) = true := decide_eq_true (by omega)
  by_cases c4 : (l1.length : Int) < (l0.length : Int)
  ·rw [if_pos c4] at H
   have c4b0 : decide ((l1.length : Int) < (l0.length : Int)) = true := decide_eq_true c4
   have c4b1 : decide (l1.length < l0.length) = true := decide_eq_true (Int.ofNat_lt.mp c4)
   obtain ⟨ji5,hji5⟩ : ∃ j_ : Int,(wrap64 ((l1.length : Int) - 1)) = j_ := ⟨_,rfl⟩
   rw [hji5] at H
   have hji5w : (IntKind.i64.wrap ((l1.length : Int) - 1)) = ji5 := (q4i _).trans hji5
   by_cases c6 : 0 ≤ (ji5)
   ·rw [if_pos c6] at H
    have c6b0 : decide (0 ≤ (ji5)) = true := decide_eq_true c6
    by_cases c7 : (ji5) < (l0.length : Int)
    ·rw [if_pos c7] at H
     have c7b0 : decide ((ji5) < (l0.length : Int)) = true := decide_eq_true c7
     by_cases c8 : (ji5) < (l1.length : Int)
     ·rw [if_pos c8] at H
      have c8b0 : decide ((ji5) < (l1.length : Int)) = true := decide_eq_true c8
      by_cases c9 : (IntKind.u64.wrap (rd l1 (ji5))) = 0
      ·rw [if_pos c9] at H
       cases H
      ·rw [if_neg c9] at H
       have c9b0 : ((IntKind.u64.wrap (rd l1 (ji5))) == 0) = false := beq_eq_false_iff_ne.mpr c9
       have c9b1 : ((IntKind.u64.wrap (rd l1 (ji5))) != 0) = true := bne_iff_ne.mpr c9
       obtain ⟨ji10,hji10⟩ : ∃ j_ : Int,(mn (IntKind.u64.wrap (Int.tdiv (Go.bits .or .u64 (IntKind.u64.wrap ((IntKind.u64.wrap (rd l0 (l1.length : Int))) * 4294967296)) (IntKind.u64.wrap (rd l0 (ji5)))) (IntKind.u64.wrap (rd l1 (ji5))))) 4294967295) = j_ := ⟨_,rfl⟩
       rw [hji10] at H
       have hji10_ : (if 4294967295 < (IntKind.u64.wrap (Int.tdiv (Go.bits .or .u64 (IntKind.u64.wrap ((IntKind.u64.wrap (rd l0 (l1.length : Int))) * 4294967296)) (IntKind.u64.wrap (rd l0 (ji5)))) (IntKind.u64.wrap (rd l1 (ji5))))) then 4294967295 else (IntKind.u64.wrap (Int.tdiv (Go.bits .or .u64 (IntKind.u64.wrap ((IntKind.u64.wrap (rd l0 (l1.length : Int))) * 4294967296)) (IntKind.u64.wrap (rd l0 (ji5)))) (IntKind.u64.wrap (rd l1 (ji5)))))) = ji10 := hji10
       obtain rfl := Option.some.inj H
       have p210 : 0 ≤ ((l1.length : Int) : Int) := od
       have q210 : (l1.length : Int) < (l0.length : Int) := od
       obtain ⟨ad210,e210,hx210_0⟩ := Kd.at_int HR0.out (l1.length : Int) p210 q210
       cases e210
       (try simp only [Go.IntWalk.toNatUp] at hx210_0)
       replace p210 := eq_true p210
       replace q210 := eq_true q210
       have p211 : 0 ≤ ((ji5) : Int) := od
       have q211 : (ji5) < (l0.length : Int) := od
       obtain ⟨ad211,e211,hx211_0⟩ := Kd.at_int HR0.out (ji5) p211 q211
       obtain rfl : ad210 = ad211 := (by injection e211)
       replace p211 := eq_true p211
       replace q211 := eq_true q211
       have p212 : 0 ≤ ((ji5) : Int) := od
       have q212 : (ji5) < (l1.length : Int) := od
       obtain ⟨ad212,e212,hx212_0⟩ := Kd.at_int HR1.out (ji5) p212 q212
       cases e212
       replace p212 := eq_true p212
       replace q212 := eq_true q212
       go_enter Tryz.func157,Tryz.ntmps157
       go_wp2
       repeat (go_quiet (fail); try go_wp2)
       go_ret
       exact ⟨by rfl,hb0 HB⟩
     ·rw [if_neg c8] at H
      cases H
    ·rw [if_neg c7] at H
     cases H
   ·rw [if_neg c6] at H
    cases H
  ·rw [if_neg c4] at H
   cases H
 ·rw [if_neg c3] at H
  cases H
def q2b.l0 : Nat → List Int → List Int → List Int → Int → List Int → Int → Option (List Int × List Int × Bool)
 | 0,_,_,_,_,_,_ => none
 | k + 1,x0,x1,x4,x7,x8,x9 => if x9 ≥ 0 then (if 0 ≤ (wrap64 ((x1.length : Int) + 1)) then (if (wrap64 ((x1.length : Int) + 1) : Int).toNat ≤ 70368744177664 then ((some (List.replicate (wrap64 ((x1.length : Int) + 1) : Int).toNat 0 : List Int)).bind fun y230 => (if 1 ≤ (y230.length : Int) then (if 0 ≤ x9 then (if x9 < (x0.length : Int) then (if 0 < (y230.length : Int) then ((some ((splice y230 1 x8).set (0 : Int).toNat (rd x0 x9) : List Int)).bind fun y239 => ((q4y.f y239 x1).bind fun t240 => ((q2k.f k y239 x1 t240).bind fun bt241 => (if x9 < (x4.length : Int) then (q2b.l0 k x0 x1 (x4.set (x9 : Int).toNat bt241.2) x7 bt241.1 (wrap64 (x9 - 1))) else (none))))) else (none)) else (none)) else (none)) else (none))) else (none)) else (none)) else ((q1a.f k x4).bind fun t246 => ((q2t.f k x8 (wrap64 (-x7))).bind fun t249 => (some (t246,t249,true))))
def q2b.f (k : Nat) (l0 : List Int) (l1 : List Int) : Option (List Int × List Int × Bool) := (q1a.f k l1).bind fun t213 => (if (t213.length : Int) = 0 then (some (([] : List Int),([] : List Int),false)) else (if 0 ≤ (wrap64 ((t213.length : Int) - 1)) then (if (wrap64 ((t213.length : Int) - 1)) < (t213.length : Int) then ((q2c.f (rd t213 (wrap64 ((t213.length : Int) - 1)))).bind fun t217 => ((q2t.f k l0 t217).bind fun t218 => ((q2t.f k t213 t217).bind fun t221 => (if 0 ≤ (t218.length : Int) then (if ((t218.length : Int) : Int).toNat ≤ 70368744177664 then (q2b.l0 k t218 t221 (List.replicate ((t218.length : Int) : Int).toNat 0) t217 (([] : List Int)) (wrap64 ((t218.length : Int) - 1))) else (none)) else (none))))) else (none)) else (none)))
theorem q2b.calls (k : Nat) (A0 : Option Addr) (c0 : Nat) (l0 : List Int) (A1 : Option Addr) (c1 : Nat) (l1 : List Int) (r1 : List Int) (r2 : List Int) (r3 : Bool) (w : World) (hr0 : Kd.C (Kd.int .u32) w A0 l0.length l0) (hc0 : l0.length ≤ c0) (hr1 : Kd.C (Kd.int .u32) w A1 l1.length l1) (hc1 : l1.length ≤ c1) (h : q2b.f k l0 l1 = some (r1,r2,r3)) :
  Calls Tryz.prog 141 #[.slice A0 l0.length c0,.slice A1 l1.length c1] w fun e w' => ∃ v0_ v1_ : Value,e = .returned (.tuple #[v0_,v1_,.bool r3]) ∧ Kd.R (Kd.int .u32) 88 w' w.heap.size (fun k_ => some k_ ≠ (v1_ : Value).ownBlock) v0_ r1 ∧ Kd.R (Kd.int .u32) 88 w' w.heap.size (fun k_ => some k_ ≠ (v0_ : Value).ownBlock) v1_ r2 ∧ Below w.heap.size w w' := by
 have HR0 := Aside0.mk hr0
 have HC0 := Aside0.mk hc0
 clear hr0 hc0
 have HR1 := Aside0.mk hr1
 have HC1 := Aside0.mk hc1
 clear hr1 hc1
 have HB := Aside0.mk (Below.refl w.heap.size w)
 have H := h
 unfold q2b.f at H
 clear h
 obtain ⟨t213,A30,H⟩ := bs H
 have A3 := Aside0.mk A30
 clear A30
 by_cases c4 : (t213.length : Int) = 0
 ·rw [if_pos c4] at H
  have c4b0 : ((t213.length : Int) == 0) = true := beq_iff_eq.mpr c4
  have c4b1 : ((t213.length : Int) != 0) = false := bne_eq_false_iff_eq.mpr c4
  clear c4
  simp only [Option.some.injEq,Prod.mk.injEq] at H
  obtain ⟨rfl,rfl,rfl⟩ := H
  go_enter Tryz.func141,Tryz.ntmps141
  go_wp2_with (((with_reducible refine q0b (f := 133) rfl ?_); refine q0u (some 12) rfl rfl Tryz.func133 (by kernel_rfl) rfl #[.slice A1 l1.length c1] rfl (ml) ?_; (with_reducible refine (q1a.calls k _ _ l1 t213 _ ?side1 ?side2 A3.out).mono ?_); (case side1 => repeat (exact HR1.out)); (case side2 => exact HC1.out); rintro e w5 ⟨v214,rfl,ho0,hb⟩; refine ⟨_,rfl,?_⟩; have HO215 := Aside0.mk (Kd.R_lower ho0 (q0e (hb0 HB))); replace HB := Aside0.mk (q0h (hb0 HB) hb); obtain ⟨Ao6,co6,eo6⟩ := Kd.R_slice HO215.out; subst eo6))
  go_ret3
  exact ⟨_,_,by rfl,by exact Kd.R_nil _ _ _ _ _,by exact Kd.R_nil _ _ _ _ _,hb0 HB⟩
 ·rw [if_neg c4] at H
  have c4b0 : ((t213.length : Int) == 0) = false := beq_eq_false_iff_ne.mpr c4
  have c4b1 : ((t213.length : Int) != 0) = true := bne_iff_ne.mpr c4
  have c4b2 : ¬ (t213 = []) := fun h_ => c4 (by rw [h_]; rfl)
  obtain ⟨ji7,hji7⟩ : ∃ j_ : Int,(wrap64 ((t213.length : Int) - 1)) = j_ := ⟨_,rfl⟩
  rw [hji7] at H
  (try rw [hji7] at A3)
  have hji7w : (IntKind.i64.wrap ((t213.length : Int) - 1)) = ji7 := (q4i _).trans hji7
  by_cases c8 : 0 ≤ (ji7)
  ·rw [if_pos c8] at H
   have c8b0 : decide (0 ≤ (ji7)) = true := decide_eq_true c8
   clear c8
   by_cases c9 : (ji7) < (t213.length : Int)
   ·rw [if_pos c9] at H
    have c9b0 : decide ((ji7) < (t213.length : Int)) = true := decide_eq_true c9
    clear c9
    obtain ⟨t217,A100,H⟩ := bs H
    have A10 := Aside0.mk A100
    clear A100
    obtain ⟨t218,A110,H⟩ := bs H
    have A11 := Aside0.mk A110
    clear A110
    obtain ⟨t221,A120,H⟩ := bs H
    have A12 := Aside0.mk A120
    clear A120
    by_cases c13 : 0 ≤ (t218.length : Int)
    ·rw [if_pos c13] at H
     have c13b0 := eq_true c13
     have c13b1 : decide (0 ≤ (t218.length : Int)) = true := decide_eq_true c13
     clear c13
     by_cases c14 : ((t218.length : Int) : Int).toNat ≤ 70368744177664
     ·rw [if_pos c14] at H
      have c14b0 := eq_true c14
      have c14b1 : decide (((t218.length : Int) : Int).toNat ≤ 70368744177664) = true := decide_eq_true c14
      clear c14
      obtain ⟨y224,hy224⟩ : ∃ y_ : List Int,y_ = (List.replicate ((t218.length : Int) : Int).toNat 0) := ⟨_,rfl⟩
      rw [← hy224] at H
      have Ny224 := Aside0.mk hy224
      clear hy224
      obtain ⟨y227,hy227⟩ : ∃ y_ : List Int,y_ = (([] : List Int)) := ⟨_,rfl⟩
      rw [← hy227] at H
      have Ny227 := Aside0.mk hy227
      clear hy227
      have H' := Aside0.mk H
      clear H
      go_enter Tryz.func141,Tryz.ntmps141
      go_wp2_with (first | ((with_reducible refine q0b (f := 133) rfl ?_); refine q0u (some 12) rfl rfl Tryz.func133 (by kernel_rfl) rfl #[.slice A1 l1.length c1] rfl (ml) ?_; (with_reducible refine (q1a.calls k _ _ l1 t213 _ ?side1 ?side2 A3.out).mono ?_); (case side1 => repeat (exact HR1.out)); (case side2 => exact HC1.out); rintro e w15 ⟨v214,rfl,ho0,hb⟩; refine ⟨_,rfl,?_⟩; have HO215 := Aside0.mk (Kd.R_lower ho0 (q0e (hb0 HB))); replace HB := Aside0.mk (q0h (hb0 HB) hb); obtain ⟨Ao16,co16,eo16⟩ := Kd.R_slice HO215.out; subst eo16; have p216 : 0 ≤ ((ji7) : Int) := od; have q216 : (ji7) < (t213.length : Int) := od; obtain ⟨ad216,e216,hx216_0⟩ := Kd.at_int (Kd.R_reads' HO215.out).2.2 (ji7) p216 q216; cases e216; replace p216 := eq_true p216; replace q216 := eq_true q216) | ((with_reducible refine q0b (f := 154) rfl ?_); refine q0u (some 22) rfl rfl Tryz.func154 (by kernel_rfl) rfl #[.int .u32 (rd t213 (ji7))] rfl (by (try simp only [List.map_toArray,List.map_cons,List.map_nil]); rfl) ?_; (with_reducible refine (q2c.calls (rd t213 (ji7)) t217 _ A10.out).mono ?_); rintro e w' ⟨rfl,⟨nd,rfl⟩⟩; refine ⟨_,rfl,?_⟩) | ((with_reducible refine q0b (f := 155) rfl ?_); refine q0u (some 25) rfl rfl Tryz.func155 (by kernel_rfl) rfl #[.slice A0 l0.length c0,.int .i64 t217] rfl (ml) ?_; (with_reducible refine (q2t.calls k _ _ l0 t217 t218 _ ?side1 ?side2 A11.out).mono ?_); (case side1 => repeat (exact (Kd.C_below HR0.out (hb0 HB)))); (case side2 => exact HC0.out); rintro e w17 ⟨v219,rfl,ho0,hb⟩; refine ⟨_,rfl,?_⟩; have HO220 := Aside0.mk (Kd.R_lower (Kd.R_new' ho0 (Kd.R_lt (rm HO215))) (q0e (hb0 HB))); replace HO215 := Aside0.mk (Kd.R_elder' (rm HO215) (Kd.R_base ho0) hb); replace HB := Aside0.mk (q0h (hb0 HB) hb)) | ((with_reducible refine q0b (f := 155) rfl ?_); refine q0u (some 28) rfl rfl Tryz.func155 (by kernel_rfl) rfl #[.slice (some ad216) t213.length co16,.int .i64 t217] rfl (ml) ?_; (with_reducible refine (q2t.calls k _ _ t213 t217 t221 _ ?side1 ?side2 A12.out).mono ?_); (case side1 => exact cr HO215); (case side2 => exact (Kd.R_reads' HO215.out).2.1); rintro e w18 ⟨v222,rfl,ho0,hb⟩; refine ⟨_,rfl,?_⟩; have HO223 := Aside0.mk (Kd.R_lower (Kd.R_new' (Kd.R_new' ho0 (Kd.R_lt (rm HO215))) (Kd.R_lt (rm HO220))) (q0e (hb0 HB))); replace HO215 := Aside0.mk (Kd.R_elder' (rm HO215) (Kd.R_base ho0) hb); replace HO220 := Aside0.mk (Kd.R_elder' (rm HO220) (Kd.R_base ho0) hb); replace HB := Aside0.mk (q0h (hb0 HB) hb); obtain ⟨Ao19,co19,eo19⟩ := Kd.R_slice HO220.out; subst eo19) | ((with_reducible refine q3b (N := 31) rfl ?_); refine Kd.R_make (Kd.int .u32) _ 88 rfl (N := 31) rfl 43 _ _ rfl (t218.length : Int) rfl rfl Tryz.underlying43 (.int .u32 0) 4 q3a rfl (by decide) (by omega) 0 (ok := fun _ => True) (okp := fun _ => True) rfl (fun _ hk => hk) trivial (od) (Nat.le_trans (Nat.mul_le_mul_right _ (od : (t218.length : Int).toNat ≤ 70368744177664)) (by omega)) (Below.refl _ _) (Nat.le_refl _) ?_; intro v225 w20 ho21 hb hg_ hnew_; clear hg_ hnew_; (rw [← Ny224.out] at ho21); have HO226 := Aside0.mk (Kd.R_lower (Kd.R_new' (Kd.R_new' (Kd.R_new' ho21 (Kd.R_lt (rm HO215))) (Kd.R_lt (rm HO220))) (Kd.R_lt (rm HO223))) (q0e (hb0 HB))); replace HO215 := Aside0.mk (Kd.R_elder' (rm HO215) (Kd.R_base ho21) hb); replace HO220 := Aside0.mk (Kd.R_elder' (rm HO220) (Kd.R_base ho21) hb); replace HO223 := Aside0.mk (Kd.R_elder' (rm HO223) (Kd.R_base ho21) hb); replace HB := Aside0.mk (q0h (hb0 HB) hb); clear hb ho21) | ((with_reducible refine q3b (N := 32) rfl ?_); refine Kd.R_lit (Kd.int .u32) _ 88 ?hg (N := 32) ?hd (xs := ([] : List Int)) (inner := []) (ok := fun _ => True) (okp := fun _ => True) ?hr ?hp (fun _ hk => hk) trivial (Below.refl _ _) (Nat.le_refl _) (by simp) ?_; (case hd => rfl); (case hg => rfl); (case hr => (go_simp; done)); (case hp => exact (Reps.none _ _)); intro v228 w22 ho23 hb hg_ hnew_; clear hg_ hnew_; (rw [← Ny227.out] at ho23); have HO229 := Aside0.mk (Kd.R_lower (Kd.R_new' (Kd.R_new' (Kd.R_new' (Kd.R_new' ho23 (Kd.R_lt (rm HO215))) (Kd.R_lt (rm HO220))) (Kd.R_lt (rm HO223))) (Kd.R_lt (rm HO226))) (q0e (hb0 HB))); replace HO215 := Aside0.mk (Kd.R_elder' (rm HO215) (Kd.R_base ho23) hb); replace HO220 := Aside0.mk (Kd.R_elder' (rm HO220) (Kd.R_base ho23) hb); replace HO223 := Aside0.mk (Kd.R_elder' (rm HO223) (Kd.R_base ho23) hb); replace HO226 := Aside0.mk (Kd.R_elder' (rm HO226) (Kd.R_base ho23) hb); replace HB := Aside0.mk (q0h (hb0 HB) hb); clear hb ho23))
      go_loopg [8,9] k (fun kq v8 v9 w' => ∃ (x0_1 : List Int) (x1_1 : List Int) (x4_1 : List Int) (x8_1 : List Int) (x9_1 : Int),v9 = .int .i64 x9_1 ∧ Aside0 (q2b.l0 kq x0_1 x1_1 x4_1 t217 x8_1 x9_1 = some (r1,r2,r3)) ∧ Aside0 (kq ≤ k) ∧ Aside0 (Kd.R (Kd.int .u32) 88 w' w.heap.size (fun k_ => some k_ ≠ (v222 : Value).ownBlock ∧ some k_ ≠ (v225 : Value).ownBlock ∧ some k_ ≠ (v8 : Value).ownBlock) (.slice Ao19 t218.length co19) x0_1) ∧ Aside0 (Kd.R (Kd.int .u32) 88 w' w.heap.size (fun k_ => some k_ ≠ ((.slice Ao19 t218.length co19) : Value).ownBlock ∧ some k_ ≠ (v225 : Value).ownBlock ∧ some k_ ≠ (v8 : Value).ownBlock) v222 x1_1) ∧ Aside0 (Kd.R (Kd.int .u32) 88 w' w.heap.size (fun k_ => some k_ ≠ ((.slice Ao19 t218.length co19) : Value).ownBlock ∧ some k_ ≠ (v222 : Value).ownBlock ∧ some k_ ≠ (v8 : Value).ownBlock) v225 x4_1) ∧ Aside0 (Kd.R (Kd.int .u32) 88 w' w.heap.size (fun k_ => some k_ ≠ ((.slice Ao19 t218.length co19) : Value).ownBlock ∧ some k_ ≠ (v222 : Value).ownBlock ∧ some k_ ≠ (v225 : Value).ownBlock) v8 x8_1) ∧ Aside0 (Below w.heap.size w w'))
      case atStart => exact ⟨(t218),(t221),(y224),(y227),(wrap64 ((t218.length : Int) - 1)),(by rfl),H',⟨Nat.le_refl _⟩,⟨by (with_reducible repeat (apply Kd.R_drew)); exact Kd.R_mono HO220.out (fun _ hk => ⟨hk.1.1.2,⟨hk.1.2,hk.2⟩⟩)⟩,⟨by (with_reducible repeat (apply Kd.R_drew)); exact Kd.R_mono HO223.out (fun _ hk => ⟨hk.1.1.2,⟨hk.1.2,hk.2⟩⟩)⟩,⟨by (with_reducible repeat (apply Kd.R_drew)); exact Kd.R_mono HO226.out (fun _ hk => ⟨hk.1.1.2,⟨hk.1.2,hk.2⟩⟩)⟩,⟨by (with_reducible repeat (apply Kd.R_drew)); exact Kd.R_mono HO229.out (fun _ hk => ⟨hk.1.1.2,⟨hk.1.2,hk.2⟩⟩)⟩,⟨hb0 HB⟩⟩
      case round =>
       clear H'
       obtain ⟨x0_1,x1_1,x4_1,x8_1,x9_1,rfl,HA,HK1,HO_0,HO_1,HO_4,HO_8,HB⟩ := hrel
       have hl0_1 := (Kd.R_reads' HO_0.out).1
       rw [hl0_1] at HO_0
       (try simp only [hl0_1])
       (try simp only [hl0_1] at HO_1)
       (try simp only [hl0_1] at HO_4)
       (try simp only [hl0_1] at HO_8)
       cases gk with
       | zero => exact absurd HA.out (by simp [q2b.l0])
       | succ k1 =>
        have H := HA.out
        clear HA
        simp only [q2b.l0] at H
        by_cases c24 : x9_1 ≥ 0
        ·rw [if_pos c24] at H
         have c24b0 : decide (0 ≤ x9_1) = true := decide_eq_true c24
         clear c24
         obtain ⟨ji25,hji25⟩ : ∃ j_ : Int,(wrap64 ((x1_1.length : Int) + 1)) = j_ := ⟨_,rfl⟩
         rw [hji25] at H
         have hji25w : (IntKind.i64.wrap ((x1_1.length : Int) + 1)) = ji25 := (q4i _).trans hji25
         by_cases c26 : 0 ≤ (ji25)
         ·rw [if_pos c26] at H
          have c26b0 := eq_true c26
          have c26b1 : decide (0 ≤ (ji25)) = true := decide_eq_true c26
          clear c26
          by_cases c27 : (ji25 : Int).toNat ≤ 70368744177664
          ·rw [if_pos c27] at H
           have c27b0 := eq_true c27
           have c27b1 : decide ((ji25 : Int).toNat ≤ 70368744177664) = true := decide_eq_true c27
           clear c27
           obtain ⟨y230,hy230⟩ : ∃ y_ : List Int,y_ = (List.replicate (ji25 : Int).toNat 0) := ⟨_,rfl⟩
           replace H : (if 1 ≤ (y230.length : Int) then (if 0 ≤ x9_1 then (if x9_1 < (x0_1.length : Int) then (if 0 < (y230.length : Int) then ((some ((splice y230 1 x8_1).set (0 : Int).toNat (rd x0_1 x9_1) : List Int)).bind fun y239 => ((q4y.f y239 x1_1).bind fun t240 => ((q2k.f k1 y239 x1_1 t240).bind fun bt241 => (if x9_1 < (x4_1.length : Int) then (q2b.l0 k1 x0_1 x1_1 (x4_1.set (x9_1 : Int).toNat bt241.2) t217 bt241.1 (wrap64 (x9_1 - 1))) else (none))))) else (none)) else (none)) else (none)) else (none)) = some (r1,r2,r3) := by (have H2_ := (Option.bind_some _ _).symm.trans H; rw [hy230]; with_reducible exact H2_)
           have Ny230 := Aside0.mk hy230
           clear hy230
           by_cases c28 : 1 ≤ (y230.length : Int)
           ·rw [if_pos c28] at H
            have c28b0 := eq_true c28
            have c28b1 : decide (1 ≤ (y230.length : Int)) = true := decide_eq_true c28
            clear c28
            obtain ⟨y233,hy233⟩ : ∃ y_ : List Int,y_ = (y230.drop 1) := ⟨_,rfl⟩
            replace H : (if 0 ≤ x9_1 then (if x9_1 < (x0_1.length : Int) then (if 0 < (y230.length : Int) then ((some ((splice y230 1 x8_1).set (0 : Int).toNat (rd x0_1 x9_1) : List Int)).bind fun y239 => ((q4y.f y239 x1_1).bind fun t240 => ((q2k.f k1 y239 x1_1 t240).bind fun bt241 => (if x9_1 < (x4_1.length : Int) then (q2b.l0 k1 x0_1 x1_1 (x4_1.set (x9_1 : Int).toNat bt241.2) t217 bt241.1 (wrap64 (x9_1 - 1))) else (none))))) else (none)) else (none)) else (none)) = some (r1,r2,r3) := by with_reducible exact H
            have Ny233 := Aside0.mk hy233
            clear hy233
            obtain ⟨y237,hy237⟩ : ∃ y_ : List Int,y_ = (splice y230 1 x8_1) := ⟨_,rfl⟩
            rw [← hy237] at H
            have Ny237 := Aside0.mk hy237
            clear hy237
            by_cases c29 : 0 ≤ x9_1
            ·rw [if_pos c29] at H
             have c29b0 : decide (0 ≤ x9_1) = true := decide_eq_true c29
             clear c29
             by_cases c30 : x9_1 < (x0_1.length : Int)
             ·rw [if_pos c30] at H
              have c30b0 : decide (x9_1 < (x0_1.length : Int)) = true := decide_eq_true c30
              (try simp only [hl0_1] at c30b0)
              clear c30
              by_cases c31 : 0 < (y230.length : Int)
              ·rw [if_pos c31] at H
               have c31b0 : decide (0 < (y230.length : Int)) = true := decide_eq_true c31
               (try simp only [hl0_1] at c31b0)
               have c31b1 : decide (0 < y230.length) = true := decide_eq_true (by omega)
               (try simp only [hl0_1] at c31b1)
               clear c31
               obtain ⟨y239,hy239⟩ : ∃ y_ : List Int,y_ = (y237.set (0 : Int).toNat (rd x0_1 x9_1)) := ⟨_,rfl⟩
               replace H : ((q4y.f y239 x1_1).bind fun t240 => ((q2k.f k1 y239 x1_1 t240).bind fun bt241 => (if x9_1 < (x4_1.length : Int) then (q2b.l0 k1 x0_1 x1_1 (x4_1.set (x9_1 : Int).toNat bt241.2) t217 bt241.1 (wrap64 (x9_1 - 1))) else (none)))) = some (r1,r2,r3) := by (have H2_ := (Option.bind_some _ _).symm.trans H; rw [hy239]; with_reducible exact H2_)
               have Ny239 := Aside0.mk hy239
               clear hy239
               obtain ⟨t240,A330,H⟩ := bs H
               have A33 := Aside0.mk A330
               clear A330
               replace H := Option.bind_eq_some_iff.mp H
               obtain ⟨⟨t241,t242⟩,A340,H⟩ := H
               replace H : (if x9_1 < (x4_1.length : Int) then (q2b.l0 k1 x0_1 x1_1 (x4_1.set (x9_1 : Int).toNat t242) t217 t241 (wrap64 (x9_1 - 1))) else (none)) = some (r1,r2,r3) := H
               have A34 := Aside0.mk A340
               clear A340
               by_cases c35 : x9_1 < (x4_1.length : Int)
               ·rw [if_pos c35] at H
                have c35b0 : decide (x9_1 < (x4_1.length : Int)) = true := decide_eq_true c35
                (try simp only [hl0_1] at c35b0)
                clear c35
                obtain ⟨y245,hy245⟩ : ∃ y_ : List Int,y_ = (x4_1.set (x9_1 : Int).toNat t242) := ⟨_,rfl⟩
                rw [← hy245] at H
                have Ny245 := Aside0.mk hy245
                clear hy245
                have H' := Aside0.mk H
                clear H
                obtain ⟨Ao37,co37,eo37⟩ := Kd.R_slice HO_1.out
                subst eo37
                go_wp2_with (first | ((with_reducible refine q3b (N := 43) rfl ?_); refine Kd.R_make (Kd.int .u32) _ 88 rfl (N := 43) rfl 43 _ _ rfl ji25 rfl rfl Tryz.underlying43 (.int .u32 0) 4 q3a rfl (by decide) (by omega) 0 (ok := fun _ => True) (okp := fun _ => True) rfl (fun _ hk => hk) trivial (od) (Nat.le_trans (Nat.mul_le_mul_right _ (od : ji25.toNat ≤ 70368744177664)) (by omega)) (Below.refl _ _) (Nat.le_refl _) ?_; intro v231 w38 ho39 hb hg_ hnew_; clear hg_ hnew_; (rw [← Ny230.out] at ho39); have HO232 := Aside0.mk (Kd.R_lower (Kd.R_new' (Kd.R_new' (Kd.R_new' (Kd.R_new' ho39 (Kd.R_lt (rm HO_0))) (Kd.R_lt (rm HO_1))) (Kd.R_lt (rm HO_4))) (Kd.R_lt (rm HO_8))) (q0e (hb0 HB))); replace HO_0 := Aside0.mk (Kd.R_elder' (rm HO_0) (Kd.R_base ho39) hb); replace HO_1 := Aside0.mk (Kd.R_elder' (rm HO_1) (Kd.R_base ho39) hb); replace HO_4 := Aside0.mk (Kd.R_elder' (rm HO_4) (Kd.R_base ho39) hb); replace HO_8 := Aside0.mk (Kd.R_elder' (rm HO_8) (Kd.R_base ho39) hb); replace HB := Aside0.mk (q0h (hb0 HB) hb); clear hb ho39; obtain ⟨Ao41,co41,eo41⟩ := Kd.R_slice HO232.out; subst eo41; have q40 : (1 : Int) ≤ ((y230.length : Int) : Int) := od; obtain ⟨i040,hi040,_,hsz40,_⟩ := info_parts q3a; have hroom40 : y230.length ≤ co41 := (Kd.R_reads' HO232.out).2.1; have hC40 : Kd.C (Kd.int .u32) _ Ao41 y230.length y230 := (Kd.R_reads' HO232.out).2.2; have hcut40 := qCg (P := Tryz.prog) 43 88 .i64 Tryz.underlying43 hi040 1 hsz40 Ao41 y230.length co41 1 (by omega) q40; have hr40 := Kd.C_drop (m := (1 : Int).toNat) (c := co41) hC40 (by omega) hroom40; obtain ⟨A40,hA40⟩ : ∃ A1,A1 = (if co41 = (1 : Int).toNat then Ao41 else (Ao41 : Option Addr).map (·.add ((1 : Int).toNat * 1))) := ⟨_,rfl⟩; obtain ⟨c40,hc40⟩ : ∃ c1,c1 = co41 - (1 : Int).toNat := ⟨_,rfl⟩; have hy40 : y233.length = y230.length - (1 : Int).toNat := (by rw [Ny233.out,List.length_drop] <;> omega); rw [show (y230).drop (1 : Int).toNat = y233 from Ny233.out.symm] at hr40; replace hr40 : Kd.C (Kd.int .u32) _ A40 y233.length y233 := (by rw [hA40]; exact hr40); rw [← hy40,← hA40,← hc40] at hcut40; have HR236 := Aside0.mk hr40; have HC236 := Aside0.mk (show y233.length ≤ c40 from by rw [hy40,hc40]; exact Nat.sub_le_sub_right hroom40 _); clear hr40 hC40 hroom40 hi040 hsz40 hc40; have KY40 := Aside0.mk hy40; have KA40 := Aside0.mk hA40; clear hy40 hA40; have KL40 := Aside0.mk (show 1 ≤ y230.length from by omega); replace q40 := eq_true q40; obtain ⟨Ao44,co44,eo44⟩ := Kd.R_slice HO_8.out; subst eo44; have n_ := Aside0.mk (Kd.R_mono (ok' := (fun k_ => some k_ ≠ (.slice Ao19 x0_1.length co19 : Value).ownBlock ∧ some k_ ≠ (.slice Ao37 x1_1.length co37 : Value).ownBlock ∧ some k_ ≠ (v225 : Value).ownBlock ∧ some k_ ≠ (.slice Ao44 x8_1.length co44 : Value).ownBlock)) HO232.out (fun k_ hk => ⟨hk.1.1.1.2,⟨hk.1.1.2,⟨hk.1.2,hk.2⟩⟩⟩)); clear HO232; have HO232 := n_; clear n_) | ((with_reducible refine q1u (b := .copy) (xs := #[.tmp 45,.tmp 46]) rfl ?_); refine Kd.R_copy_cut (enc := (Value.int .u32)) (h1 := fun _ => rfl) (w0 := w) 0 w.heap.size rfl (.tmp 45) (.tmp 46) 43 43 88 rfl Tryz.underlying43 q3a Ao41 y230.length co41 1 A40 y233.length c40 y230 x8_1 _ _ _ (fun k_ => some k_ ≠ (.slice Ao19 x0_1.length co19 : Value).ownBlock ∧ some k_ ≠ (.slice Ao37 x1_1.length co37 : Value).ownBlock ∧ some k_ ≠ (v225 : Value).ownBlock ∧ some k_ ≠ (.slice Ao44 x8_1.length co44 : Value).ownBlock) rfl rfl ?aO ?aA ?aM ?aN ?aR ?aB ?aS ?_; (case aA => exact KA40.out); (case aM => exact KY40.out); (case aN => exact KL40.out); (case aO => exact (rm HO232)); (case aR => exact cr HO_8); (case aB => exact (hb0 HB)); (case aS => exact (q0e (hb0 HB))); intro w43 n_ hg hp_ hb; rw [← Ny237.out] at hp_; replace HO_0 := Aside0.mk (Kd.R_after (v := (.slice Ao41 y230.length co41)) (v1 := (.slice Ao41 y230.length co41)) (ok := (fun k_ => some k_ ≠ (.slice Ao37 x1_1.length co37 : Value).ownBlock ∧ some k_ ≠ (v225 : Value).ownBlock ∧ some k_ ≠ (.slice Ao44 x8_1.length co44 : Value).ownBlock)) (rm HO_0) hg (.inl rfl)); replace HO_1 := Aside0.mk (Kd.R_after (v := (.slice Ao41 y230.length co41)) (v1 := (.slice Ao41 y230.length co41)) (ok := (fun k_ => some k_ ≠ (.slice Ao19 x0_1.length co19 : Value).ownBlock ∧ some k_ ≠ (v225 : Value).ownBlock ∧ some k_ ≠ (.slice Ao44 x8_1.length co44 : Value).ownBlock)) (rm HO_1) hg (.inl rfl)); replace HO_4 := Aside0.mk (Kd.R_after (v := (.slice Ao41 y230.length co41)) (v1 := (.slice Ao41 y230.length co41)) (ok := (fun k_ => some k_ ≠ (.slice Ao19 x0_1.length co19 : Value).ownBlock ∧ some k_ ≠ (.slice Ao37 x1_1.length co37 : Value).ownBlock ∧ some k_ ≠ (.slice Ao44 x8_1.length co44 : Value).ownBlock)) (rm HO_4) hg (.inl rfl)); replace HO_8 := Aside0.mk (Kd.R_after (v := (.slice Ao41 y230.length co41)) (v1 := (.slice Ao41 y230.length co41)) (ok := (fun k_ => some k_ ≠ (.slice Ao19 x0_1.length co19 : Value).ownBlock ∧ some k_ ≠ (.slice Ao37 x1_1.length co37 : Value).ownBlock ∧ some k_ ≠ (v225 : Value).ownBlock)) (rm HO_8) hg (.inl rfl)); replace HO232 := Aside0.mk (hp_); replace HB := Aside0.mk (hb); clear hb hg hp_; (try clear hcut40); have p238 : 0 ≤ (x9_1 : Int) := od; have q238 : x9_1 < (x0_1.length : Int) := od; obtain ⟨ad238,e238,hx238_0⟩ := Kd.at_int (Kd.R_reads' HO_0.out).2.2 x9_1 p238 q238; cases e238; replace p238 := eq_true p238; replace q238 := eq_true q238; have p32 : 0 ≤ (0 : Int) := (by omega); have q32 : (0 : Int) < ((y230.length : Int) : Int) := od; have qi32 : (0 < y230.length) = True := eq_true (by omega); obtain ⟨go32,co32,eo32,gb32,gl32,cl32,HG32⟩ := Kd.R_form HO232.out (by (simp only [Ny237.out,List.length_set,q4b]; omega)); ((injection eo32 with ea_ en_ ec_; (subst ea_); subst ec_; clear en_)); have GB32 := Aside0.mk gb32; have GG32 := Aside0.mk HG32; clear gb32 gl32 HG32; obtain ⟨hx32_0,hf32_0⟩ := Kd.R_celln 0 HO232.out (0 : Int) p32 q32; (try rw [show ((0 : Int)).toNat = 0 from rfl] at hx32_0); (try simp only [Nat.reduceMul,Nat.zero_mul,Nat.zero_add,Nat.reduceAdd] at hx32_0); (try rw [show ((0 : Int)).toNat = 0 from rfl] at hf32_0); (try simp only [Nat.reduceMul,Nat.zero_mul,Nat.zero_add,Nat.reduceAdd] at hf32_0); replace p32 := eq_true p32; replace q32 := eq_true q32; obtain ⟨hy46_,hz46_⟩ := Kd.R_celln 0 HO232.out (0 : Int) (by omega) (od); (try simp only [Int.reduceToNat,Int.toNat_zero,Int.toNat_ofNat,Nat.reduceMul,Nat.zero_mul,Nat.zero_add] at hy46_ hz46_); (try rw [show ((0 : Int)).toNat = 0 from rfl] at hy46_); (try rw [show ((0 : Int)).toNat = 0 from rfl] at hz46_); have HP46 := Kd.R_putg HO232.out (0 : Int) (rd x0_1 x9_1)) | ((with_reducible refine q5c (t := 88) (p := 53) rfl ?_); refine q4m (t := 88) (p := 53) (v := ?vo_w47) (w1 := (w43.setCell ⟨go32,(0 : Int).toNat,none⟩ (.int .u32 (rd x0_1 x9_1)))) ?hg ?ho ?hn ?hr ?_; (case ho => rfl); (case hg => rfl); (case hn => rfl); (case hr => (go_simp; done)); intro w47 hw; have hg : w43.grownBy w47 (some go32) := (by rw [hw]; exact HP46.2); have hp_ : Kd.R (Kd.int .u32) 88 w47 w.heap.size (fun k_ => some k_ ≠ (.slice (some ad238) x0_1.length co19 : Value).ownBlock ∧ some k_ ≠ (.slice Ao37 x1_1.length co37 : Value).ownBlock ∧ some k_ ≠ (v225 : Value).ownBlock ∧ some k_ ≠ (.slice Ao44 x8_1.length co44 : Value).ownBlock) (.slice (some ⟨go32,0,none⟩) y230.length co41) y239 := (by rw [hw,Ny239.out]; exact HP46.1); clear HP46; replace HO_0 := Aside0.mk (Kd.R_after (v := (.slice (some ⟨go32,0,none⟩) y230.length co41)) (v1 := (.slice (some ⟨go32,0,none⟩) y230.length co41)) (ok := (fun k_ => some k_ ≠ (.slice Ao37 x1_1.length co37 : Value).ownBlock ∧ some k_ ≠ (v225 : Value).ownBlock ∧ some k_ ≠ (.slice Ao44 x8_1.length co44 : Value).ownBlock)) (rm HO_0) hg (.inl rfl)); replace HO_1 := Aside0.mk (Kd.R_after (v := (.slice (some ⟨go32,0,none⟩) y230.length co41)) (v1 := (.slice (some ⟨go32,0,none⟩) y230.length co41)) (ok := (fun k_ => some k_ ≠ (.slice (some ad238) x0_1.length co19 : Value).ownBlock ∧ some k_ ≠ (v225 : Value).ownBlock ∧ some k_ ≠ (.slice Ao44 x8_1.length co44 : Value).ownBlock)) (rm HO_1) hg (.inl rfl)); replace HO_4 := Aside0.mk (Kd.R_after (v := (.slice (some ⟨go32,0,none⟩) y230.length co41)) (v1 := (.slice (some ⟨go32,0,none⟩) y230.length co41)) (ok := (fun k_ => some k_ ≠ (.slice (some ad238) x0_1.length co19 : Value).ownBlock ∧ some k_ ≠ (.slice Ao37 x1_1.length co37 : Value).ownBlock ∧ some k_ ≠ (.slice Ao44 x8_1.length co44 : Value).ownBlock)) (rm HO_4) hg (.inl rfl)); replace HO_8 := Aside0.mk (Kd.R_after (v := (.slice (some ⟨go32,0,none⟩) y230.length co41)) (v1 := (.slice (some ⟨go32,0,none⟩) y230.length co41)) (ok := (fun k_ => some k_ ≠ (.slice (some ad238) x0_1.length co19 : Value).ownBlock ∧ some k_ ≠ (.slice Ao37 x1_1.length co37 : Value).ownBlock ∧ some k_ ≠ (v225 : Value).ownBlock)) (rm HO_8) hg (.inl rfl)); replace HO232 := Aside0.mk (hp_); replace HB := Aside0.mk ((by rw [hw]; exact q2s (HB.out) GB32.out : Below w.heap.size w w47)); clear hg hw hp_) | ((with_reducible refine q0b (f := 157) rfl ?_); refine q0u (some 61) rfl rfl Tryz.func157 (by kernel_rfl) rfl #[.slice (some ⟨go32,0,none⟩) y239.length co41,.slice Ao37 x1_1.length co37] rfl (by (try simp only [List.map_toArray,List.map_cons,List.map_nil]); (rw [show y239.length = y230.length from (Kd.R_reads' HO232.out).1.symm] <;> rfl)) ?_; (with_reducible refine (q4y.calls _ _ y239 _ _ x1_1 t240 _ ?side1 ?side2 ?side3 ?side4 A33.out).mono ?_); (case side1 => exact cr HO232); (case side2 => rw [show y239.length = y230.length from (Kd.R_reads' HO232.out).1.symm]; exact (Kd.R_reads' HO232.out).2.1); (case side3 => exact cr HO_1); (case side4 => exact (Kd.R_reads' HO_1.out).2.1); rintro e w48 ⟨rfl,hb⟩; refine ⟨_,rfl,?_⟩; replace HO_0 := Aside0.mk (Kd.R_below (rm HO_0) hb); replace HO_1 := Aside0.mk (Kd.R_below (rm HO_1) hb); replace HO_4 := Aside0.mk (Kd.R_below (rm HO_4) hb); replace HO_8 := Aside0.mk (Kd.R_below (rm HO_8) hb); replace HO232 := Aside0.mk (Kd.R_below (rm HO232) hb); replace HB := Aside0.mk (q0h (hb0 HB) hb)) | ((with_reducible refine q0b (f := 156) rfl ?_); refine q0u (some 62) rfl rfl Tryz.func156 (by kernel_rfl) rfl #[.slice (some ⟨go32,0,none⟩) y239.length co41,.slice Ao37 x1_1.length co37,.int .u32 t240] rfl (by (try simp only [List.map_toArray,List.map_cons,List.map_nil]); (rw [show y239.length = y230.length from (Kd.R_reads' HO232.out).1.symm] <;> rfl)) ?_; (with_reducible refine (q2k.calls k1 _ _ y239 _ _ x1_1 t240 t241 t242 _ ?side1 ?side2 ?side3 ?side4 A34.out).mono ?_); (case side1 => exact cr HO232); (case side2 => rw [show y239.length = y230.length from (Kd.R_reads' HO232.out).1.symm]; exact (Kd.R_reads' HO232.out).2.1); (case side3 => exact cr HO_1); (case side4 => exact (Kd.R_reads' HO_1.out).2.1); rintro e w49 ⟨v243,rfl,ho0,hb⟩; refine ⟨_,rfl,?_⟩; have HO244 := Aside0.mk (Kd.R_lower (Kd.R_new' (Kd.R_new' (Kd.R_new' (Kd.R_new' (Kd.R_new' ho0 (Kd.R_lt (rm HO_0))) (Kd.R_lt (rm HO_1))) (Kd.R_lt (rm HO_4))) (Kd.R_lt (rm HO_8))) (Kd.R_lt (rm HO232))) (q0e (hb0 HB))); replace HO_0 := Aside0.mk (Kd.R_elder' (rm HO_0) (Kd.R_base ho0) hb); replace HO_1 := Aside0.mk (Kd.R_elder' (rm HO_1) (Kd.R_base ho0) hb); replace HO_4 := Aside0.mk (Kd.R_elder' (rm HO_4) (Kd.R_base ho0) hb); replace HO_8 := Aside0.mk (Kd.R_elder' (rm HO_8) (Kd.R_base ho0) hb); replace HO232 := Aside0.mk (Kd.R_elder' (rm HO232) (Kd.R_base ho0) hb); replace HB := Aside0.mk (q0h (hb0 HB) hb); have p36 : 0 ≤ (x9_1 : Int) := od; have q36 : (x9_1 : Int) < ((x4_1.length : Int) : Int) := od; obtain ⟨go36,co36,eo36,gb36,gl36,cl36,HG36⟩ := Kd.R_form HO_4.out (by omega); (cases eo36); have GB36 := Aside0.mk gb36; have GG36 := Aside0.mk HG36; clear gb36 gl36 HG36; obtain ⟨hx36_0,hf36_0⟩ := Kd.R_celln 0 HO_4.out (x9_1 : Int) p36 q36; replace p36 := eq_true p36; replace q36 := eq_true q36; have n_ := Aside0.mk (Kd.R_mono (ok' := (fun k_ => some k_ ≠ (.slice (some ad238) x0_1.length co19 : Value).ownBlock ∧ some k_ ≠ (.slice Ao37 x1_1.length co37 : Value).ownBlock ∧ some k_ ≠ (.slice Ao44 x8_1.length co44 : Value).ownBlock ∧ some k_ ≠ (.slice (some ⟨go32,0,none⟩) y230.length co41 : Value).ownBlock ∧ some k_ ≠ (v243 : Value).ownBlock)) HO_4.out (fun k_ hk => ⟨hk.1.1.1,⟨hk.1.1.2.1,⟨hk.1.1.2.2,⟨hk.1.2,hk.2⟩⟩⟩⟩)); clear HO_4; have HO_4 := n_; clear n_; obtain ⟨hy50_,hz50_⟩ := Kd.R_celln 0 HO_4.out (x9_1 : Int) (od) (od); have HP50 := Kd.R_putg HO_4.out (x9_1 : Int) t242) | ((with_reducible refine q5c (t := 88) (p := 65) rfl ?_); refine q4m (t := 88) (p := 65) (v := ?vo_w51) (w1 := (w49.setCell ⟨go36,(x9_1 : Int).toNat,none⟩ (.int .u32 t242))) ?hg ?ho ?hn ?hr ?_; (case ho => rfl); (case hg => rfl); (case hn => rfl); (case hr => (go_simp; done)); intro w51 hw; have hg : w49.grownBy w51 (some go36) := (by rw [hw]; exact HP50.2); have hp_ : Kd.R (Kd.int .u32) 88 w51 w.heap.size (fun k_ => some k_ ≠ (.slice (some ad238) x0_1.length co19 : Value).ownBlock ∧ some k_ ≠ (.slice Ao37 x1_1.length co37 : Value).ownBlock ∧ some k_ ≠ (.slice Ao44 x8_1.length co44 : Value).ownBlock ∧ some k_ ≠ (.slice (some ⟨go32,0,none⟩) y230.length co41 : Value).ownBlock ∧ some k_ ≠ (v243 : Value).ownBlock) (.slice (some ⟨go36,0,none⟩) x4_1.length co36) y245 := (by rw [hw,Ny245.out]; exact HP50.1); clear HP50; replace HO_0 := Aside0.mk (Kd.R_after (v := (.slice (some ⟨go36,0,none⟩) x4_1.length co36)) (v1 := (.slice (some ⟨go36,0,none⟩) x4_1.length co36)) (ok := (fun k_ => some k_ ≠ (.slice Ao37 x1_1.length co37 : Value).ownBlock ∧ some k_ ≠ (.slice Ao44 x8_1.length co44 : Value).ownBlock ∧ some k_ ≠ (.slice (some ⟨go32,0,none⟩) y230.length co41 : Value).ownBlock ∧ some k_ ≠ (v243 : Value).ownBlock)) (by (with_reducible repeat (apply Kd.R_drew)); exact Kd.R_mono HO_0.out (fun _ hk => ⟨⟨hk.1.1.1,⟨hk.1.1.2.2,⟨hk.1.2,hk.2⟩⟩⟩,hk.1.1.2.1⟩)) hg (.inl rfl)); replace HO_1 := Aside0.mk (Kd.R_after (v := (.slice (some ⟨go36,0,none⟩) x4_1.length co36)) (v1 := (.slice (some ⟨go36,0,none⟩) x4_1.length co36)) (ok := (fun k_ => some k_ ≠ (.slice (some ad238) x0_1.length co19 : Value).ownBlock ∧ some k_ ≠ (.slice Ao44 x8_1.length co44 : Value).ownBlock ∧ some k_ ≠ (.slice (some ⟨go32,0,none⟩) y230.length co41 : Value).ownBlock ∧ some k_ ≠ (v243 : Value).ownBlock)) (by (with_reducible repeat (apply Kd.R_drew)); exact Kd.R_mono HO_1.out (fun _ hk => ⟨⟨hk.1.1.1,⟨hk.1.1.2.2,⟨hk.1.2,hk.2⟩⟩⟩,hk.1.1.2.1⟩)) hg (.inl rfl)); replace HO_4 := Aside0.mk (hp_); replace HO_8 := Aside0.mk (Kd.R_after (v := (.slice (some ⟨go36,0,none⟩) x4_1.length co36)) (v1 := (.slice (some ⟨go36,0,none⟩) x4_1.length co36)) (ok := (fun k_ => some k_ ≠ (.slice (some ad238) x0_1.length co19 : Value).ownBlock ∧ some k_ ≠ (.slice Ao37 x1_1.length co37 : Value).ownBlock ∧ some k_ ≠ (.slice (some ⟨go32,0,none⟩) y230.length co41 : Value).ownBlock ∧ some k_ ≠ (v243 : Value).ownBlock)) (by (with_reducible repeat (apply Kd.R_drew)); exact Kd.R_mono HO_8.out (fun _ hk => ⟨⟨hk.1.1.1,⟨hk.1.1.2.1,⟨hk.1.2,hk.2⟩⟩⟩,hk.1.1.2.2⟩)) hg (.inl rfl)); replace HO232 := Aside0.mk (Kd.R_after (v := (.slice (some ⟨go36,0,none⟩) x4_1.length co36)) (v1 := (.slice (some ⟨go36,0,none⟩) x4_1.length co36)) (ok := (fun k_ => some k_ ≠ (.slice (some ad238) x0_1.length co19 : Value).ownBlock ∧ some k_ ≠ (.slice Ao37 x1_1.length co37 : Value).ownBlock ∧ some k_ ≠ (.slice Ao44 x8_1.length co44 : Value).ownBlock ∧ some k_ ≠ (v243 : Value).ownBlock)) (by (with_reducible repeat (apply Kd.R_drew)); exact Kd.R_mono HO232.out (fun _ hk => ⟨⟨hk.1.1,⟨hk.1.2.1,⟨hk.1.2.2.2,hk.2⟩⟩⟩,hk.1.2.2.1⟩)) hg (.inl rfl)); replace HO244 := Aside0.mk (Kd.R_after (v := (.slice (some ⟨go36,0,none⟩) x4_1.length co36)) (v1 := (.slice (some ⟨go36,0,none⟩) x4_1.length co36)) (ok := (fun k_ => some k_ ≠ (.slice (some ad238) x0_1.length co19 : Value).ownBlock ∧ some k_ ≠ (.slice Ao37 x1_1.length co37 : Value).ownBlock ∧ some k_ ≠ (.slice Ao44 x8_1.length co44 : Value).ownBlock ∧ some k_ ≠ (.slice (some ⟨go32,0,none⟩) y230.length co41 : Value).ownBlock)) (by (with_reducible repeat (apply Kd.R_drew)); exact Kd.R_mono HO244.out (fun _ hk => ⟨⟨hk.1.1.1.1.2,⟨hk.1.1.1.2,⟨hk.1.2,hk.2⟩⟩⟩,hk.1.1.2⟩)) hg (.inl rfl)); replace HB := Aside0.mk ((by rw [hw]; exact q2s (HB.out) GB36.out : Below w.heap.size w w51)); clear hg hw hp_))
                (try simp only [← hl0_1])
                go_roundg k1
                case measure => have := HK1.out; omega
                case rel => exact ⟨(x0_1),(x1_1),(y245),(t241),(wrap64 (x9_1 - 1)),(by rfl),H',⟨by have := HK1.out; omega⟩,⟨by (try simp only [hl0_1]); (with_reducible repeat (apply Kd.R_drew)); exact Kd.R_mono HO_0.out (fun _ hk => ⟨hk.1.1,⟨hk.2,hk.1.2.2.2⟩⟩)⟩,⟨by (try simp only [hl0_1]); (with_reducible repeat (apply Kd.R_drew)); exact Kd.R_mono HO_1.out (fun _ hk => ⟨hk.1.1,⟨hk.2,hk.1.2.2.2⟩⟩)⟩,⟨by (try simp only [hl0_1]); (with_reducible repeat (apply Kd.R_drew)); exact Kd.R_mono HO_4.out (fun _ hk => ⟨hk.1,⟨hk.2.1,hk.2.2.2.2⟩⟩)⟩,⟨by (try simp only [hl0_1]); (with_reducible repeat (apply Kd.R_drew)); exact Kd.R_mono HO244.out (fun _ hk => ⟨hk.1.1,⟨hk.1.2.1,hk.2⟩⟩)⟩,⟨hb0 HB⟩⟩
               ·rw [if_neg c35] at H
                cases H
              ·rw [if_neg c31] at H
               cases H
             ·rw [if_neg c30] at H
              cases H
            ·rw [if_neg c29] at H
             cases H
           ·rw [if_neg c28] at H
            cases H
          ·rw [if_neg c27] at H
           cases H
         ·rw [if_neg c26] at H
          cases H
        ·rw [if_neg c24] at H
         have c24b0 : decide (0 ≤ x9_1) = false := decide_eq_false c24
         clear c24
         obtain ⟨t246,A520,H⟩ := bs H
         have A52 := Aside0.mk A520
         clear A520
         obtain ⟨t249,A530,H⟩ := bs H
         have A53 := Aside0.mk A530
         clear A530
         simp only [Option.some.injEq,Prod.mk.injEq] at H
         obtain ⟨rfl,rfl,rfl⟩ := H
         obtain ⟨Ao54,co54,eo54⟩ := Kd.R_slice HO_4.out
         subst eo54
         go_wp2_with (first | ((with_reducible refine q0b (f := 133) rfl ?_); refine q0u (some 67) rfl rfl Tryz.func133 (by kernel_rfl) rfl #[.slice Ao54 x4_1.length co54] rfl (ml) ?_; (with_reducible refine (q1a.calls k1 _ _ x4_1 t246 _ ?side1 ?side2 A52.out).mono ?_); (case side1 => exact cr HO_4); (case side2 => exact (Kd.R_reads' HO_4.out).2.1); rintro e w55 ⟨v247,rfl,ho0,hb⟩; refine ⟨_,rfl,?_⟩; have HO248 := Aside0.mk (Kd.R_lower (Kd.R_new' (Kd.R_new' (Kd.R_new' (Kd.R_new' ho0 (Kd.R_lt (rm HO_0))) (Kd.R_lt (rm HO_1))) (Kd.R_lt (rm HO_4))) (Kd.R_lt (rm HO_8))) (q0e (hb0 HB))); replace HO_0 := Aside0.mk (Kd.R_elder' (rm HO_0) (Kd.R_base ho0) hb); replace HO_1 := Aside0.mk (Kd.R_elder' (rm HO_1) (Kd.R_base ho0) hb); replace HO_4 := Aside0.mk (Kd.R_elder' (rm HO_4) (Kd.R_base ho0) hb); replace HO_8 := Aside0.mk (Kd.R_elder' (rm HO_8) (Kd.R_base ho0) hb); replace HB := Aside0.mk (q0h (hb0 HB) hb); obtain ⟨Ao56,co56,eo56⟩ := Kd.R_slice HO_8.out; subst eo56) | ((with_reducible refine q0b (f := 155) rfl ?_); refine q0u (some 71) rfl rfl Tryz.func155 (by kernel_rfl) rfl #[.slice Ao56 x8_1.length co56,.int .i64 (wrap64 (-t217))] rfl (ml) ?_; (with_reducible refine (q2t.calls k1 _ _ x8_1 (wrap64 (-t217)) t249 _ ?side1 ?side2 A53.out).mono ?_); (case side1 => exact cr HO_8); (case side2 => exact (Kd.R_reads' HO_8.out).2.1); rintro e w57 ⟨v250,rfl,ho0,hb⟩; refine ⟨_,rfl,?_⟩; have HO251 := Aside0.mk (Kd.R_lower (Kd.R_new' (Kd.R_new' (Kd.R_new' (Kd.R_new' (Kd.R_new' ho0 (Kd.R_lt (rm HO_0))) (Kd.R_lt (rm HO_1))) (Kd.R_lt (rm HO_4))) (Kd.R_lt (rm HO_8))) (Kd.R_lt (rm HO248))) (q0e (hb0 HB))); replace HO_0 := Aside0.mk (Kd.R_elder' (rm HO_0) (Kd.R_base ho0) hb); replace HO_1 := Aside0.mk (Kd.R_elder' (rm HO_1) (Kd.R_base ho0) hb); replace HO_4 := Aside0.mk (Kd.R_elder' (rm HO_4) (Kd.R_base ho0) hb); replace HO_8 := Aside0.mk (Kd.R_elder' (rm HO_8) (Kd.R_base ho0) hb); replace HO248 := Aside0.mk (Kd.R_elder' (rm HO248) (Kd.R_base ho0) hb); replace HB := Aside0.mk (q0h (hb0 HB) hb)))
         go_ret3
         exact ⟨_,_,by rfl,by (with_reducible repeat (apply Kd.R_drew)); exact Kd.R_mono HO248.out (fun _ hk => hk.2),by (with_reducible repeat (apply Kd.R_drew)); exact Kd.R_mono HO251.out (fun _ hk => hk.2),hb0 HB⟩
     ·rw [if_neg c14] at H
      cases H
    ·rw [if_neg c13] at H
     cases H
   ·rw [if_neg c9] at H
    cases H
  ·rw [if_neg c8] at H
   cases H
def q2q.l0 : Nat → List Int → List Int → Option (List Int)
 | 0,_,_ => none
 | k + 1,x0,x1 => if (x1.length : Int) > 0 then ((q2b.f k x0 x1).bind fun bt258 => (q2q.l0 k x1 bt258.2.1)) else (some x0)
def q2q.f (k : Nat) (l0 : List Int) (l1 : List Int) : Option (List Int) := (q1a.f k l0).bind fun t252 => ((q1a.f k l1).bind fun t255 => (q2q.l0 k t252 t255))
theorem q2q.calls (k : Nat) (A0 : Option Addr) (c0 : Nat) (l0 : List Int) (A1 : Option Addr) (c1 : Nat) (l1 : List Int) (r : List Int) (w : World) (hr0 : Kd.C (Kd.int .u32) w A0 l0.length l0) (hc0 : l0.length ≤ c0) (hr1 : Kd.C (Kd.int .u32) w A1 l1.length l1) (hc1 : l1.length ≤ c1) (h : q2q.f k l0 l1 = some r) :
  Calls Tryz.prog 117 #[.slice A0 l0.length c0,.slice A1 l1.length c1] w fun e w' => ∃ v0_ : Value,e = .returned (v0_) ∧ Kd.R (Kd.int .u32) 88 w' w.heap.size (fun _ => True) v0_ r ∧ Below w.heap.size w w' := by
 have HR0 := Aside0.mk hr0
 have HC0 := Aside0.mk hc0
 clear hr0 hc0
 have HR1 := Aside0.mk hr1
 have HC1 := Aside0.mk hc1
 clear hr1 hc1
 have HB := Aside0.mk (Below.refl w.heap.size w)
 have H := h
 unfold q2q.f at H
 clear h
 obtain ⟨t252,A30,H⟩ := bs H
 have A3 := Aside0.mk A30
 clear A30
 obtain ⟨t255,A40,H⟩ := bs H
 have A4 := Aside0.mk A40
 clear A40
 have H' := Aside0.mk H
 clear H
 go_enter Tryz.func117,Tryz.ntmps117
 go_wp2_with (first | ((with_reducible refine q0b (f := 133) rfl ?_); refine q0u (some 9) rfl rfl Tryz.func133 (by kernel_rfl) rfl #[.slice A0 l0.length c0] rfl (ml) ?_; (with_reducible refine (q1a.calls k _ _ l0 t252 _ ?side1 ?side2 A3.out).mono ?_); (case side1 => repeat (exact HR0.out)); (case side2 => exact HC0.out); rintro e w5 ⟨v253,rfl,ho0,hb⟩; refine ⟨_,rfl,?_⟩; have HO254 := Aside0.mk (Kd.R_lower ho0 (q0e (hb0 HB))); replace HB := Aside0.mk (q0h (hb0 HB) hb)) | ((with_reducible refine q0b (f := 133) rfl ?_); refine q0u (some 11) rfl rfl Tryz.func133 (by kernel_rfl) rfl #[.slice A1 l1.length c1] rfl (ml) ?_; (with_reducible refine (q1a.calls k _ _ l1 t255 _ ?side1 ?side2 A4.out).mono ?_); (case side1 => exact cb HR1 HB); (case side2 => exact HC1.out); rintro e w6 ⟨v256,rfl,ho0,hb⟩; refine ⟨_,rfl,?_⟩; have HO257 := Aside0.mk (Kd.R_lower (Kd.R_new' ho0 (Kd.R_lt (rm HO254))) (q0e (hb0 HB))); replace HO254 := Aside0.mk (Kd.R_elder' (rm HO254) (Kd.R_base ho0) hb); replace HB := Aside0.mk (q0h (hb0 HB) hb)))
 go_loopg [0,1] k (fun kq v0 v1 w' => ∃ (x0_1 : List Int) (x1_1 : List Int),Aside0 (q2q.l0 kq x0_1 x1_1 = some r) ∧ Aside0 (kq ≤ k) ∧ Aside0 (Kd.R (Kd.int .u32) 88 w' w.heap.size (fun k_ => some k_ ≠ (v1 : Value).ownBlock) v0 x0_1) ∧ Aside0 (Kd.R (Kd.int .u32) 88 w' w.heap.size (fun k_ => some k_ ≠ (v0 : Value).ownBlock) v1 x1_1) ∧ Aside0 (Below w.heap.size w w'))
 case atStart => exact ⟨(t252),(t255),H',⟨Nat.le_refl _⟩,⟨by (with_reducible repeat (apply Kd.R_drew)); exact Kd.R_mono HO254.out (fun _ hk => hk.2)⟩,⟨by (with_reducible repeat (apply Kd.R_drew)); exact Kd.R_mono HO257.out (fun _ hk => hk.2)⟩,⟨hb0 HB⟩⟩
 case round =>
  clear H'
  obtain ⟨x0_1,x1_1,HA,HK1,HO_0,HO_1,HB⟩ := hrel
  cases gk with
  | zero => exact absurd HA.out (by simp [q2q.l0])
  | succ k1 =>
   have H := HA.out
   clear HA
   simp only [q2q.l0] at H
   by_cases c7 : (x1_1.length : Int) > 0
   ·rw [if_pos c7] at H
    have c7b0 : decide (0 < (x1_1.length : Int)) = true := decide_eq_true c7
    have c7b1 : decide (0 < x1_1.length) = true := decide_eq_true (by omega)
    replace H := Option.bind_eq_some_iff.mp H
    obtain ⟨⟨t258,t259,t260⟩,A80,H⟩ := H
    replace H : (q2q.l0 k1 x1_1 t259) = some r := H
    have A8 := Aside0.mk A80
    clear A80
    have H' := Aside0.mk H
    clear H
    obtain ⟨Ao9,co9,eo9⟩ := Kd.R_slice HO_1.out
    subst eo9
    obtain ⟨Ao10,co10,eo10⟩ := Kd.R_slice HO_0.out
    subst eo10
    go_wp2_with (((with_reducible refine q0b (f := 141) rfl ?_); refine q0u (some 18) rfl rfl Tryz.func141 (by kernel_rfl) rfl #[.slice Ao10 x0_1.length co10,.slice Ao9 x1_1.length co9] rfl (ml) ?_; (with_reducible refine (q2b.calls k1 _ _ x0_1 _ _ x1_1 t258 t259 t260 _ ?side1 ?side2 ?side3 ?side4 A8.out).mono ?_); (case side1 => exact cr HO_0); (case side2 => exact (Kd.R_reads' HO_0.out).2.1); (case side3 => exact cr HO_1); (case side4 => exact (Kd.R_reads' HO_1.out).2.1); rintro e w11 ⟨v261,v263,rfl,ho0,ho1,hb⟩; refine ⟨_,rfl,?_⟩; have HO262 := Aside0.mk (Kd.R_lower (Kd.R_new' (Kd.R_new' ho0 (Kd.R_lt (rm HO_0))) (Kd.R_lt (rm HO_1))) (q0e (hb0 HB))); have HO264 := Aside0.mk (Kd.R_lower (Kd.R_new' (Kd.R_new' ho1 (Kd.R_lt (rm HO_0))) (Kd.R_lt (rm HO_1))) (q0e (hb0 HB))); replace HO_0 := Aside0.mk (Kd.R_mono (Kd.R_told (Kd.R_told (Kd.R_old (rm HO_0) hb) (Kd.R_base ho0)) (Kd.R_base ho1)) (fun _ h_ => h_.1)); replace HO_1 := Aside0.mk (Kd.R_mono (Kd.R_told (Kd.R_told (Kd.R_old (rm HO_1) hb) (Kd.R_base ho0)) (Kd.R_base ho1)) (fun _ h_ => h_.1)); replace HB := Aside0.mk (q0h (hb0 HB) hb)))
    go_roundg k1
    case measure => have := HK1.out; omega
    case rel => exact ⟨(x1_1),(t259),H',⟨by have := HK1.out; omega⟩,⟨by (with_reducible repeat (apply Kd.R_drew)); exact Kd.R_mono HO_1.out (fun _ hk => hk.2)⟩,⟨by (with_reducible repeat (apply Kd.R_drew)); exact Kd.R_mono HO264.out (fun _ hk => hk.2)⟩,⟨hb0 HB⟩⟩
   ·rw [if_neg c7] at H
    have c7b0 : decide (0 < (x1_1.length : Int)) = false := decide_eq_false c7
    have c7b1 : decide (0 < x1_1.length) = false := decide_eq_false (by omega)
    obtain rfl := Option.some.inj H
    obtain ⟨Ao12,co12,eo12⟩ := Kd.R_slice HO_1.out
    subst eo12
    go_wp2
    go_ret
    exact ⟨_,by rfl,by (with_reducible repeat (apply Kd.R_drew)); exact Kd.R_mono HO_0.out (fun _ hk => trivial),hb0 HB⟩
def q3x.f (k : Nat) (a0 : Int) : Option (List Int) := (q1a.f k (([(a0) % 4294967296,(a0 / 4294967296) % 4294967296] : List Int))).bind fun t268 => (some t268)
theorem q3x.calls (k : Nat) (a0 : Int) (r : List Int) (w : World) (h : q3x.f k a0 = some r) :
  Calls Tryz.prog 109 #[.int .u64 a0] w fun e w' => ∃ v0_ : Value,e = .returned (v0_) ∧ Kd.R (Kd.int .u32) 88 w' w.heap.size (fun _ => True) v0_ r ∧ Below w.heap.size w w' := by
 have HB := Aside0.mk (Below.refl w.heap.size w)
 have H := h
 unfold q3x.f at H
 clear h
 obtain ⟨y265,hy265⟩ : ∃ y_ : List Int,y_ = (([(a0) % 4294967296,(a0 / 4294967296) % 4294967296] : List Int)) := ⟨_,rfl⟩
 rw [← hy265] at H
 have Ny265 := Aside0.mk hy265
 clear hy265
 obtain ⟨t268,A20,H⟩ := bs H
 have A2 := Aside0.mk A20
 clear A20
 obtain rfl := Option.some.inj H
 go_enter Tryz.func109,Tryz.ntmps109
 go_wp2_with (first | ((with_reducible refine q3b (N := 8) rfl ?_); refine Kd.R_lit (Kd.int .u32) _ 88 ?hg (N := 8) ?hd (xs := ([(a0) % 4294967296,(a0 / 4294967296) % 4294967296] : List Int)) (inner := [.int .u32 ((a0) % 4294967296),.int .u32 ((a0 / 4294967296) % 4294967296)]) (ok := fun _ => True) (okp := fun _ => True) ?hr ?hp (fun _ hk => hk) trivial (Below.refl _ _) (Nat.le_refl _) (by simp) ?_; (case hd => rfl); (case hg => rfl); (case hr => (go_simp; done)); (case hp => exact (Reps.one (show Kd.M (Kd.int .u32) _ _ _ ((a0) % 4294967296) [.int .u32 ((a0) % 4294967296)] from rfl) (Reps.one (show Kd.M (Kd.int .u32) _ _ _ ((a0 / 4294967296) % 4294967296) [.int .u32 ((a0 / 4294967296) % 4294967296)] from rfl) (Reps.none _ _)))); intro v266 w3 ho4 hb hg_ hnew_; clear hg_ hnew_; (rw [← Ny265.out] at ho4); have HO267 := Aside0.mk (Kd.R_lower ho4 (q0e (hb0 HB))); replace HB := Aside0.mk (q0h (hb0 HB) hb); clear hb ho4; obtain ⟨Ao5,co5,eo5⟩ := Kd.R_slice HO267.out; subst eo5) | ((with_reducible refine q0b (f := 133) rfl ?_); refine q0u (some 9) rfl rfl Tryz.func133 (by kernel_rfl) rfl #[.slice Ao5 y265.length co5] rfl (ml) ?_; (with_reducible refine (q1a.calls k _ _ y265 t268 _ ?side1 ?side2 A2.out).mono ?_); (case side1 => exact cr HO267); (case side2 => exact (Kd.R_reads' HO267.out).2.1); rintro e w6 ⟨v269,rfl,ho0,hb⟩; refine ⟨_,rfl,?_⟩; have HO270 := Aside0.mk (Kd.R_lower (Kd.R_new' ho0 (Kd.R_lt (rm HO267))) (q0e (hb0 HB))); replace HO267 := Aside0.mk (Kd.R_elder' (rm HO267) (Kd.R_base ho0) hb); replace HB := Aside0.mk (q0h (hb0 HB) hb)))
 go_ret
 exact ⟨_,by rfl,by (with_reducible repeat (apply Kd.R_drew)); exact Kd.R_mono HO270.out (fun _ hk => trivial),hb0 HB⟩
def q6g.f (k : Nat) (l0 : List Int) : Option (Int) := (q1y.f k l0).bind fun t271 => (if t271 = 0 then (some 0) else (if 0 ≤ (wrap64 (t271 - 1)) then (if (wrap64 (t271 - 1)) < (l0.length : Int) then ((q4d.f (rd l0 (wrap64 (t271 - 1)))).bind fun t273 => (some (wrap64 ((wrap64 (32 * (wrap64 (t271 - 1)))) + t273)))) else (none)) else (none)))
theorem q6g.calls (k : Nat) (A0 : Option Addr) (c0 : Nat) (l0 : List Int) (r : Int) (w : World) (hr0 : Kd.C (Kd.int .u32) w A0 l0.length l0) (hc0 : l0.length ≤ c0) (h : q6g.f k l0 = some r) :
  Calls Tryz.prog 145 #[.slice A0 l0.length c0] w fun e w' => e = .returned (.int .i64 r) ∧ q0s w w' := by
 have HR0 := Aside0.mk hr0
 have HC0 := Aside0.mk hc0
 clear hr0 hc0
 have H := h
 unfold q6g.f at H
 clear h
 obtain ⟨t271,A20,H⟩ := bs H
 have A2 := Aside0.mk A20
 clear A20
 by_cases c3 : t271 = 0
 ·rw [if_pos c3] at H
  have c3b0 : (t271 == 0) = true := beq_iff_eq.mpr c3
  have c3b1 : (t271 != 0) = false := bne_eq_false_iff_eq.mpr c3
  obtain rfl := Option.some.inj H
  go_enter Tryz.func145,Tryz.ntmps145
  go_wp2_with (((with_reducible refine q0b (f := 138) rfl ?_); refine q0u (some 5) rfl rfl Tryz.func138 (by kernel_rfl) rfl #[.slice A0 l0.length c0] rfl (ml) ?_; (with_reducible refine (q1y.calls k _ _ l0 t271 _ ?side1 ?side2 A2.out).mono ?_); (case side1 => repeat (exact HR0.out)); (case side2 => exact HC0.out); rintro e w' ⟨rfl,⟨nd,rfl⟩⟩; refine ⟨_,rfl,?_⟩))
  go_ret
  exact ⟨by rfl,by repeat (first | exact q0s.refl _ | apply q0s.step)⟩
 ·rw [if_neg c3] at H
  have c3b0 : (t271 == 0) = false := beq_eq_false_iff_ne.mpr c3
  have c3b1 : (t271 != 0) = true := bne_iff_ne.mpr c3
  obtain ⟨ji4,hji4⟩ : ∃ j_ : Int,(wrap64 (t271 - 1)) = j_ := ⟨_,rfl⟩
  rw [hji4] at H
  (try rw [hji4] at A2)
  have hji4w : (IntKind.i64.wrap (t271 - 1)) = ji4 := (q4i _).trans hji4
  by_cases c5 : 0 ≤ (ji4)
  ·rw [if_pos c5] at H
   have c5b0 : decide (0 ≤ (ji4)) = true := decide_eq_true c5
   by_cases c6 : (ji4) < (l0.length : Int)
   ·rw [if_pos c6] at H
    have c6b0 : decide ((ji4) < (l0.length : Int)) = true := decide_eq_true c6
    obtain ⟨t273,A70,H⟩ := bs H
    have A7 := Aside0.mk A70
    clear A70
    obtain rfl := Option.some.inj H
    go_enter Tryz.func145,Tryz.ntmps145
    go_wp2_with (first | ((with_reducible refine q0b (f := 138) rfl ?_); refine q0u (some 5) rfl rfl Tryz.func138 (by kernel_rfl) rfl #[.slice A0 l0.length c0] rfl (ml) ?_; (with_reducible refine (q1y.calls k _ _ l0 t271 _ ?side1 ?side2 A2.out).mono ?_); (case side1 => repeat (exact HR0.out)); (case side2 => exact HC0.out); rintro e w' ⟨rfl,⟨nd,rfl⟩⟩; refine ⟨_,rfl,?_⟩; have p272 : 0 ≤ ((ji4) : Int) := od; have q272 : (ji4) < (l0.length : Int) := od; obtain ⟨ad272,e272,hx272_0⟩ := Kd.at_int HR0.out (ji4) p272 q272; cases e272; replace p272 := eq_true p272; replace q272 := eq_true q272) | ((with_reducible refine q0b (f := 161) rfl ?_); refine q0u (some 16) rfl rfl Tryz.func161 (by kernel_rfl) rfl #[.int .u32 (rd l0 (ji4))] rfl (by (try simp only [List.map_toArray,List.map_cons,List.map_nil]); rfl) ?_; (with_reducible refine (q4d.calls (rd l0 (ji4)) t273 _ A7.out).mono ?_); rintro e w' ⟨rfl,⟨nd,rfl⟩⟩; refine ⟨_,rfl,?_⟩))
    go_ret
    exact ⟨by rfl,by repeat (first | exact q0s.refl _ | apply q0s.step)⟩
   ·rw [if_neg c6] at H
    cases H
  ·rw [if_neg c5] at H
   cases H
def q6k.f (l0 : List Int) (a1 : Int) : Option (Bool) := if a1 ≥ 0 then (if (wrap64 (Int.tdiv a1 32)) < (l0.length : Int) then (if 0 ≤ (wrap64 (Int.tdiv a1 32)) then (if 0 ≤ (Int.tmod a1 32) then (some ((Go.bits .and .u32 (shr .u32 (rd l0 (wrap64 (Int.tdiv a1 32))) (Int.tmod a1 32)) 1) == 1)) else (none)) else (none)) else (some false)) else (some false)
theorem q6k.calls (A0 : Option Addr) (c0 : Nat) (l0 : List Int) (a1 : Int) (r : Bool) (w : World) (hr0 : Kd.C (Kd.int .u32) w A0 l0.length l0) (hc0 : l0.length ≤ c0) (h : q6k.f l0 a1 = some r) :
  Calls Tryz.prog 146 #[.slice A0 l0.length c0,.int .i64 a1] w fun e w' => e = .returned (.bool r) ∧ q0s w w' := by
 have HR0 := Aside0.mk hr0
 have HC0 := Aside0.mk hc0
 clear hr0 hc0
 have H := h
 unfold q6k.f at H
 clear h
 by_cases c3 : a1 ≥ 0
 ·rw [if_pos c3] at H
  have c3b0 : decide (0 ≤ a1) = true := decide_eq_true c3
  by_cases c4 : (wrap64 (Int.tdiv a1 32)) < (l0.length : Int)
  ·rw [if_pos c4] at H
   have c4b0 : decide ((wrap64 (Int.tdiv a1 32)) < (l0.length : Int)) = true := decide_eq_true c4
   obtain ⟨ji5,hji5⟩ : ∃ j_ : Int,(wrap64 (Int.tdiv a1 32)) = j_ := ⟨_,rfl⟩
   rw [hji5] at H
   (try rw [hji5] at c4b0)
   have hji5w : (IntKind.i64.wrap (Int.tdiv a1 32)) = ji5 := (q4i _).trans hji5
   by_cases c6 : 0 ≤ (ji5)
   ·rw [if_pos c6] at H
    have c6b0 : decide (0 ≤ (ji5)) = true := decide_eq_true c6
    obtain ⟨ji7,hji7⟩ : ∃ j_ : Int,(Int.tmod a1 32) = j_ := ⟨_,rfl⟩
    rw [hji7] at H
    by_cases c8 : 0 ≤ (ji7)
    ·rw [if_pos c8] at H
     have c8b0 := eq_true c8
     have c8b1 : decide (0 ≤ (ji7)) = true := decide_eq_true c8
     obtain ⟨ji9,hji9⟩ : ∃ j_ : Int,(shr .u32 (rd l0 (ji5)) (ji7)) = j_ := ⟨_,rfl⟩
     rw [hji9] at H
     have hji9_ : ((rd l0 (ji5)) / 2 ^ min (ji7).toNat 32) = ji9 := hji9
     have hji9z : (ji7) ≤ 32 → ((rd l0 (ji5)) / 2 ^ (ji7).toNat) = ji9 := q7e hji9
     obtain rfl := Option.some.inj H
     have p274 : 0 ≤ ((ji5) : Int) := od
     have q274 : (ji5) < (l0.length : Int) := od
     obtain ⟨ad274,e274,hx274_0⟩ := Kd.at_int HR0.out (ji5) p274 q274
     cases e274
     replace p274 := eq_true p274
     replace q274 := eq_true q274
     go_enter Tryz.func146,Tryz.ntmps146
     go_wp2
     go_ret
     exact ⟨by rfl,by repeat (exact q0s.refl _)⟩
    ·rw [if_neg c8] at H
     cases H
   ·rw [if_neg c6] at H
    cases H
  ·rw [if_neg c4] at H
   have c4b0 : decide ((wrap64 (Int.tdiv a1 32)) < (l0.length : Int)) = false := decide_eq_false c4
   obtain rfl := Option.some.inj H
   go_enter Tryz.func146,Tryz.ntmps146
   go_wp2
   go_ret
   exact ⟨by rfl,by repeat (exact q0s.refl _)⟩
 ·rw [if_neg c3] at H
  have c3b0 : decide (0 ≤ a1) = false := decide_eq_false c3
  obtain rfl := Option.some.inj H
  go_enter Tryz.func146,Tryz.ntmps146
  go_wp2
  go_ret
  exact ⟨by rfl,by repeat (exact q0s.refl _)⟩
def q1x.l0 : Nat → List Int → List Int → List Int → Int → Option (List Int × Bool)
 | 0,_,_,_,_ => none
 | k + 1,x0,x6,x7,x8 => if x8 ≥ 0 then ((q1k.f k x6 x6).bind fun t282 => (if (t282.length : Int) > 256 then (some (([] : List Int),false)) else ((q6k.f x7 x8).bind fun t285 => (if t285 = true then ((q1k.f k t282 x0).bind fun t286 => (if (t286.length : Int) > 256 then (some (([] : List Int),false)) else (q1x.l0 k x0 t286 x7 (wrap64 (x8 - 1))))) else (q1x.l0 k x0 t282 x7 (wrap64 (x8 - 1))))))) else (some (x6,true))
def q1x.f (k : Nat) (l0 : List Int) (a1 : Int) : Option (List Int × Bool) := if a1 < 0 then (some (([] : List Int),false)) else ((q3x.f k 1).bind fun t275 => ((q3x.f k (IntKind.u64.wrap (a1))).bind fun t278 => ((q6g.f k t278).bind fun t281 => (q1x.l0 k l0 t275 t278 (wrap64 (t281 - 1))))))
theorem q1x.calls (k : Nat) (A0 : Option Addr) (c0 : Nat) (l0 : List Int) (a1 : Int) (r1 : List Int) (r2 : Bool) (w : World) (hr0 : Kd.C (Kd.int .u32) w A0 l0.length l0) (hc0 : l0.length ≤ c0) (h : q1x.f k l0 a1 = some (r1,r2)) :
  Calls Tryz.prog 126 #[.slice A0 l0.length c0,.int .i64 a1] w fun e w' => ∃ v0_ : Value,e = .returned (.tuple #[v0_,.bool r2]) ∧ Kd.R (Kd.int .u32) 88 w' w.heap.size (fun _ => True) v0_ r1 ∧ Below w.heap.size w w' := by
 have HR0 := Aside0.mk hr0
 have HC0 := Aside0.mk hc0
 clear hr0 hc0
 have HB := Aside0.mk (Below.refl w.heap.size w)
 have H := h
 unfold q1x.f at H
 clear h
 by_cases c3 : a1 < 0
 ·rw [if_pos c3] at H
  have c3b0 : decide (a1 < 0) = true := decide_eq_true c3
  simp only [Option.some.injEq,Prod.mk.injEq] at H
  obtain ⟨rfl,rfl⟩ := H
  go_enter Tryz.func126,Tryz.ntmps126
  go_wp2
  go_ret2
  exact ⟨_,by rfl,by exact Kd.R_nil _ _ _ _ _,hb0 HB⟩
 ·rw [if_neg c3] at H
  have c3b0 : decide (a1 < 0) = false := decide_eq_false c3
  obtain ⟨t275,A40,H⟩ := bs H
  have A4 := Aside0.mk A40
  clear A40
  obtain ⟨t278,A50,H⟩ := bs H
  have A5 := Aside0.mk A50
  clear A50
  obtain ⟨t281,A60,H⟩ := bs H
  have A6 := Aside0.mk A60
  clear A60
  have H' := Aside0.mk H
  clear H
  go_enter Tryz.func126,Tryz.ntmps126
  go_wp2_with (first | ((with_reducible refine q0b (f := 109) rfl ?_); refine q0u (some 11) rfl rfl Tryz.func109 (by kernel_rfl) rfl #[.int .u64 1] rfl (ml) ?_; (with_reducible refine (q3x.calls k 1 t275 _ A4.out).mono ?_); rintro e w7 ⟨v276,rfl,ho0,hb⟩; refine ⟨_,rfl,?_⟩; have HO277 := Aside0.mk (Kd.R_lower ho0 (q0e (hb0 HB))); replace HB := Aside0.mk (q0h (hb0 HB) hb)) | ((with_reducible refine q0b (f := 109) rfl ?_); refine q0u (some 14) rfl rfl Tryz.func109 (by kernel_rfl) rfl #[.int .u64 (IntKind.u64.wrap (a1))] rfl (ml) ?_; (with_reducible refine (q3x.calls k (IntKind.u64.wrap (a1)) t278 _ A5.out).mono ?_); rintro e w8 ⟨v279,rfl,ho0,hb⟩; refine ⟨_,rfl,?_⟩; have HO280 := Aside0.mk (Kd.R_lower (Kd.R_new' ho0 (Kd.R_lt (rm HO277))) (q0e (hb0 HB))); replace HO277 := Aside0.mk (Kd.R_elder' (rm HO277) (Kd.R_base ho0) hb); replace HB := Aside0.mk (q0h (hb0 HB) hb); obtain ⟨Ao9,co9,eo9⟩ := Kd.R_slice HO280.out; subst eo9) | ((with_reducible refine q0b (f := 145) rfl ?_); refine q0u (some 16) rfl rfl Tryz.func145 (by kernel_rfl) rfl #[.slice Ao9 t278.length co9] rfl (ml) ?_; (with_reducible refine (q6g.calls k _ _ t278 t281 _ ?side1 ?side2 A6.out).mono ?_); (case side1 => exact cr HO280); (case side2 => exact (Kd.R_reads' HO280.out).2.1); rintro e w' ⟨rfl,⟨nd,rfl⟩⟩; refine ⟨_,rfl,?_⟩))
  go_loopg [6,8] k (fun kq v6 v8 w' => ∃ (x6_1 : List Int) (x8_1 : Int),v8 = .int .i64 x8_1 ∧ Aside0 (q1x.l0 kq l0 x6_1 t278 x8_1 = some (r1,r2)) ∧ Aside0 (kq ≤ k) ∧ Aside0 (Kd.R (Kd.int .u32) 88 w' w.heap.size (fun k_ => some k_ ≠ ((.slice Ao9 t278.length co9) : Value).ownBlock) v6 x6_1) ∧ Aside0 (Kd.R (Kd.int .u32) 88 w' w.heap.size (fun k_ => some k_ ≠ (v6 : Value).ownBlock) (.slice Ao9 t278.length co9) t278) ∧ Aside0 (Below w.heap.size w w'))
  case atStart => exact ⟨(t275),(wrap64 (t281 - 1)),(by rfl),H',⟨Nat.le_refl _⟩,⟨by (with_reducible repeat (apply Kd.R_drewN)); exact Kd.R_mono HO277.out (fun _ hk => hk.2)⟩,⟨by (with_reducible repeat (apply Kd.R_drewN)); exact Kd.R_mono HO280.out (fun _ hk => hk.2)⟩,⟨hb0 HB⟩⟩
  case round =>
   clear H'
   obtain ⟨x6_1,x8_1,rfl,HA,HK1,HO_6,HO_7,HB⟩ := hrel
   cases gk with
   | zero => exact absurd HA.out (by simp [q1x.l0])
   | succ k1 =>
    have H := HA.out
    clear HA
    simp only [q1x.l0] at H
    by_cases c10 : x8_1 ≥ 0
    ·rw [if_pos c10] at H
     have c10b0 : decide (0 ≤ x8_1) = true := decide_eq_true c10
     obtain ⟨t282,A110,H⟩ := bs H
     have A11 := Aside0.mk A110
     clear A110
     by_cases c12 : (t282.length : Int) > 256
     ·rw [if_pos c12] at H
      have c12b0 : decide (256 < (t282.length : Int)) = true := decide_eq_true c12
      have c12b1 : decide (256 < t282.length) = true := decide_eq_true (by omega)
      simp only [Option.some.injEq,Prod.mk.injEq] at H
      obtain ⟨rfl,rfl⟩ := H
      obtain ⟨Ao13,co13,eo13⟩ := Kd.R_slice HO_6.out
      subst eo13
      go_wp2_with (((with_reducible refine q0b (f := 122) rfl ?_); refine q0u (some 24) rfl rfl Tryz.func122 (by kernel_rfl) rfl #[.slice Ao13 x6_1.length co13,.slice Ao13 x6_1.length co13] rfl (ml) ?_; (with_reducible refine (q1k.calls k1 _ _ x6_1 _ _ x6_1 t282 _ ?side1 ?side2 ?side3 ?side4 A11.out).mono ?_); (case side1 => exact cr HO_6); (case side2 => exact (Kd.R_reads' HO_6.out).2.1); (case side3 => exact cr HO_6); (case side4 => exact (Kd.R_reads' HO_6.out).2.1); rintro e w14 ⟨v283,rfl,ho0,hb⟩; refine ⟨_,rfl,?_⟩; have HO284 := Aside0.mk (Kd.R_lower (Kd.R_new' (Kd.R_new' ho0 (Kd.R_lt (rm HO_6))) (Kd.R_lt (rm HO_7))) (q0e (hb0 HB))); replace HO_6 := Aside0.mk (Kd.R_elder' (rm HO_6) (Kd.R_base ho0) hb); replace HO_7 := Aside0.mk (Kd.R_elder' (rm HO_7) (Kd.R_base ho0) hb); replace HB := Aside0.mk (q0h (hb0 HB) hb); obtain ⟨Ao15,co15,eo15⟩ := Kd.R_slice HO284.out; subst eo15))
      go_ret2
      exact ⟨_,by rfl,by exact Kd.R_nil _ _ _ _ _,hb0 HB⟩
     ·rw [if_neg c12] at H
      have c12b0 : decide (256 < (t282.length : Int)) = false := decide_eq_false c12
      have c12b1 : decide (256 < t282.length) = false := decide_eq_false (by omega)
      obtain ⟨t285,A160,H⟩ := bs H
      have A16 := Aside0.mk A160
      clear A160
      by_cases c17 : t285 = true
      ·subst c17
       have H1 : ((q1k.f k1 t282 l0).bind fun t286 => (if (t286.length : Int) > 256 then (some (([] : List Int),false)) else (q1x.l0 k1 l0 t286 t278 (wrap64 (x8_1 - 1))))) = some (r1,r2) := by rw [if_pos rfl] at H; exact H
       clear H
       have H := H1
       clear H1
       obtain ⟨t286,A180,H⟩ := bs H
       have A18 := Aside0.mk A180
       clear A180
       by_cases c19 : (t286.length : Int) > 256
       ·rw [if_pos c19] at H
        have c19b0 : decide (256 < (t286.length : Int)) = true := decide_eq_true c19
        have c19b1 : decide (256 < t286.length) = true := decide_eq_true (by omega)
        simp only [Option.some.injEq,Prod.mk.injEq] at H
        obtain ⟨rfl,rfl⟩ := H
        obtain ⟨Ao20,co20,eo20⟩ := Kd.R_slice HO_6.out
        subst eo20
        go_wp2_with (first | ((with_reducible refine q0b (f := 122) rfl ?_); refine q0u (some 24) rfl rfl Tryz.func122 (by kernel_rfl) rfl #[.slice Ao20 x6_1.length co20,.slice Ao20 x6_1.length co20] rfl (ml) ?_; (with_reducible refine (q1k.calls k1 _ _ x6_1 _ _ x6_1 t282 _ ?side1 ?side2 ?side3 ?side4 A11.out).mono ?_); (case side1 => exact cr HO_6); (case side2 => exact (Kd.R_reads' HO_6.out).2.1); (case side3 => exact cr HO_6); (case side4 => exact (Kd.R_reads' HO_6.out).2.1); rintro e w21 ⟨v283,rfl,ho0,hb⟩; refine ⟨_,rfl,?_⟩; have HO284 := Aside0.mk (Kd.R_lower (Kd.R_new' (Kd.R_new' ho0 (Kd.R_lt (rm HO_6))) (Kd.R_lt (rm HO_7))) (q0e (hb0 HB))); replace HO_6 := Aside0.mk (Kd.R_elder' (rm HO_6) (Kd.R_base ho0) hb); replace HO_7 := Aside0.mk (Kd.R_elder' (rm HO_7) (Kd.R_base ho0) hb); replace HB := Aside0.mk (q0h (hb0 HB) hb); obtain ⟨Ao22,co22,eo22⟩ := Kd.R_slice HO284.out; subst eo22) | ((with_reducible refine q0b (f := 146) rfl ?_); refine q0u (some 30) rfl rfl Tryz.func146 (by kernel_rfl) rfl #[.slice Ao9 t278.length co9,.int .i64 x8_1] rfl (ml) ?_; (with_reducible refine (q6k.calls _ _ t278 x8_1 true _ ?side1 ?side2 A16.out).mono ?_); (case side1 => exact cr HO_7); (case side2 => exact (Kd.R_reads' HO_7.out).2.1); rintro e w' ⟨rfl,⟨nd,rfl⟩⟩; refine ⟨_,rfl,?_⟩) | ((with_reducible refine q0b (f := 122) rfl ?_); refine q0u (some 34) rfl rfl Tryz.func122 (by kernel_rfl) rfl #[.slice Ao22 t282.length co22,.slice A0 l0.length c0] rfl (ml) ?_; (with_reducible refine (q1k.calls k1 _ _ t282 _ _ l0 t286 _ ?side1 ?side2 ?side3 ?side4 A18.out).mono ?_); (case side1 => exact cr HO284); (case side2 => exact (Kd.R_reads' HO284.out).2.1); (case side3 => repeat (exact (Kd.C_below HR0.out (hb0 HB)))); (case side4 => exact HC0.out); rintro e w23 ⟨v287,rfl,ho0,hb⟩; refine ⟨_,rfl,?_⟩; have HO288 := Aside0.mk (Kd.R_lower (Kd.R_new' (Kd.R_new' (Kd.R_new' ho0 (Kd.R_lt (rm HO_6))) (Kd.R_lt (rm HO_7))) (Kd.R_lt (rm HO284))) (q0e (hb0 HB))); replace HO_6 := Aside0.mk (Kd.R_elder' (rm HO_6) (Kd.R_base ho0) hb); replace HO_7 := Aside0.mk (Kd.R_elder' (rm HO_7) (Kd.R_base ho0) hb); replace HO284 := Aside0.mk (Kd.R_elder' (rm HO284) (Kd.R_base ho0) hb); replace HB := Aside0.mk (q0h (hb0 HB) hb); obtain ⟨Ao24,co24,eo24⟩ := Kd.R_slice HO288.out; subst eo24))
        go_ret2
        exact ⟨_,by rfl,by exact Kd.R_nil _ _ _ _ _,hb0 HB⟩
       ·rw [if_neg c19] at H
        have c19b0 : decide (256 < (t286.length : Int)) = false := decide_eq_false c19
        have c19b1 : decide (256 < t286.length) = false := decide_eq_false (by omega)
        have H' := Aside0.mk H
        clear H
        obtain ⟨Ao25,co25,eo25⟩ := Kd.R_slice HO_6.out
        subst eo25
        go_wp2_with (first | ((with_reducible refine q0b (f := 122) rfl ?_); refine q0u (some 24) rfl rfl Tryz.func122 (by kernel_rfl) rfl #[.slice Ao25 x6_1.length co25,.slice Ao25 x6_1.length co25] rfl (ml) ?_; (with_reducible refine (q1k.calls k1 _ _ x6_1 _ _ x6_1 t282 _ ?side1 ?side2 ?side3 ?side4 A11.out).mono ?_); (case side1 => exact cr HO_6); (case side2 => exact (Kd.R_reads' HO_6.out).2.1); (case side3 => exact cr HO_6); (case side4 => exact (Kd.R_reads' HO_6.out).2.1); rintro e w26 ⟨v283,rfl,ho0,hb⟩; refine ⟨_,rfl,?_⟩; have HO284 := Aside0.mk (Kd.R_lower (Kd.R_new' (Kd.R_new' ho0 (Kd.R_lt (rm HO_6))) (Kd.R_lt (rm HO_7))) (q0e (hb0 HB))); replace HO_6 := Aside0.mk (Kd.R_elder' (rm HO_6) (Kd.R_base ho0) hb); replace HO_7 := Aside0.mk (Kd.R_elder' (rm HO_7) (Kd.R_base ho0) hb); replace HB := Aside0.mk (q0h (hb0 HB) hb); obtain ⟨Ao27,co27,eo27⟩ := Kd.R_slice HO284.out; subst eo27) | ((with_reducible refine q0b (f := 146) rfl ?_); refine q0u (some 30) rfl rfl Tryz.func146 (by kernel_rfl) rfl #[.slice Ao9 t278.length co9,.int .i64 x8_1] rfl (ml) ?_; (with_reducible refine (q6k.calls _ _ t278 x8_1 true _ ?side1 ?side2 A16.out).mono ?_); (case side1 => exact cr HO_7); (case side2 => exact (Kd.R_reads' HO_7.out).2.1); rintro e w' ⟨rfl,⟨nd,rfl⟩⟩; refine ⟨_,rfl,?_⟩) | ((with_reducible refine q0b (f := 122) rfl ?_); refine q0u (some 34) rfl rfl Tryz.func122 (by kernel_rfl) rfl #[.slice Ao27 t282.length co27,.slice A0 l0.length c0] rfl (ml) ?_; (with_reducible refine (q1k.calls k1 _ _ t282 _ _ l0 t286 _ ?side1 ?side2 ?side3 ?side4 A18.out).mono ?_); (case side1 => exact cr HO284); (case side2 => exact (Kd.R_reads' HO284.out).2.1); (case side3 => repeat (exact (Kd.C_below HR0.out (hb0 HB)))); (case side4 => exact HC0.out); rintro e w28 ⟨v287,rfl,ho0,hb⟩; refine ⟨_,rfl,?_⟩; have HO288 := Aside0.mk (Kd.R_lower (Kd.R_new' (Kd.R_new' (Kd.R_new' ho0 (Kd.R_lt (rm HO_6))) (Kd.R_lt (rm HO_7))) (Kd.R_lt (rm HO284))) (q0e (hb0 HB))); replace HO_6 := Aside0.mk (Kd.R_elder' (rm HO_6) (Kd.R_base ho0) hb); replace HO_7 := Aside0.mk (Kd.R_elder' (rm HO_7) (Kd.R_base ho0) hb); replace HO284 := Aside0.mk (Kd.R_elder' (rm HO284) (Kd.R_base ho0) hb); replace HB := Aside0.mk (q0h (hb0 HB) hb); obtain ⟨Ao29,co29,eo29⟩ := Kd.R_slice HO288.out; subst eo29))
        go_roundg k1
        case measure => have := HK1.out; omega
        case rel => exact ⟨(t286),(wrap64 (x8_1 - 1)),(by rfl),H',⟨by have := HK1.out; omega⟩,⟨by (with_reducible repeat (apply Kd.R_drew)); exact Kd.R_mono HO288.out (fun _ hk => hk.1.2)⟩,⟨by (with_reducible repeat (apply Kd.R_drew)); exact Kd.R_mono HO_7.out (fun _ hk => hk.2)⟩,⟨hb0 HB⟩⟩
      ·replace c17 := Bool.eq_false_iff.mpr c17
       subst c17
       have H1 : (q1x.l0 k1 l0 t282 t278 (wrap64 (x8_1 - 1))) = some (r1,r2) := by rw [if_neg (show ¬ (false = true) by decide)] at H; exact H
       clear H
       have H := H1
       clear H1
       have H' := Aside0.mk H
       clear H
       obtain ⟨Ao30,co30,eo30⟩ := Kd.R_slice HO_6.out
       subst eo30
       go_wp2_with (first | ((with_reducible refine q0b (f := 122) rfl ?_); refine q0u (some 24) rfl rfl Tryz.func122 (by kernel_rfl) rfl #[.slice Ao30 x6_1.length co30,.slice Ao30 x6_1.length co30] rfl (ml) ?_; (with_reducible refine (q1k.calls k1 _ _ x6_1 _ _ x6_1 t282 _ ?side1 ?side2 ?side3 ?side4 A11.out).mono ?_); (case side1 => exact cr HO_6); (case side2 => exact (Kd.R_reads' HO_6.out).2.1); (case side3 => exact cr HO_6); (case side4 => exact (Kd.R_reads' HO_6.out).2.1); rintro e w31 ⟨v283,rfl,ho0,hb⟩; refine ⟨_,rfl,?_⟩; have HO284 := Aside0.mk (Kd.R_lower (Kd.R_new' (Kd.R_new' ho0 (Kd.R_lt (rm HO_6))) (Kd.R_lt (rm HO_7))) (q0e (hb0 HB))); replace HO_6 := Aside0.mk (Kd.R_elder' (rm HO_6) (Kd.R_base ho0) hb); replace HO_7 := Aside0.mk (Kd.R_elder' (rm HO_7) (Kd.R_base ho0) hb); replace HB := Aside0.mk (q0h (hb0 HB) hb); obtain ⟨Ao32,co32,eo32⟩ := Kd.R_slice HO284.out; subst eo32) | ((with_reducible refine q0b (f := 146) rfl ?_); refine q0u (some 30) rfl rfl Tryz.func146 (by kernel_rfl) rfl #[.slice Ao9 t278.length co9,.int .i64 x8_1] rfl (ml) ?_; (with_reducible refine (q6k.calls _ _ t278 x8_1 false _ ?side1 ?side2 A16.out).mono ?_); (case side1 => exact cr HO_7); (case side2 => exact (Kd.R_reads' HO_7.out).2.1); rintro e w' ⟨rfl,⟨nd,rfl⟩⟩; refine ⟨_,rfl,?_⟩))
       go_roundg k1
       case measure => have := HK1.out; omega
       case rel => exact ⟨(t282),(wrap64 (x8_1 - 1)),(by rfl),H',⟨by have := HK1.out; omega⟩,⟨by (with_reducible repeat (apply Kd.R_drewN)); exact Kd.R_mono HO284.out (fun _ hk => hk.2)⟩,⟨by (with_reducible repeat (apply Kd.R_drewN)); exact Kd.R_mono HO_7.out (fun _ hk => hk.2)⟩,⟨hb0 HB⟩⟩
    ·rw [if_neg c10] at H
     have c10b0 : decide (0 ≤ x8_1) = false := decide_eq_false c10
     simp only [Option.some.injEq,Prod.mk.injEq] at H
     obtain ⟨rfl,rfl⟩ := H
     go_wp2
     go_ret2
     exact ⟨_,by rfl,by (with_reducible repeat (apply Kd.R_drew)); exact Kd.R_mono HO_6.out (fun _ hk => trivial),hb0 HB⟩
def q5s.f (a0 : Int) (a1 : Int) (a2 : Int) : Option (Int × Int) := some ((IntKind.u64.wrap ((IntKind.u64.wrap ((IntKind.u64.wrap (a0)) + (IntKind.u64.wrap (a1)))) + (IntKind.u64.wrap (a2)))) % 4294967296,((IntKind.u64.wrap ((IntKind.u64.wrap ((IntKind.u64.wrap (a0)) + (IntKind.u64.wrap (a1)))) + (IntKind.u64.wrap (a2)))) / 4294967296) % 4294967296)
theorem q5s.calls (a0 : Int) (a1 : Int) (a2 : Int) (r1 : Int) (r2 : Int) (w : World) (h : q5s.f a0 a1 a2 = some (r1,r2)) :
  Calls Tryz.prog 158 #[.int .u32 a0,.int .u32 a1,.int .u32 a2] w fun e w' => e = .returned (.tuple #[.int .u32 r1,.int .u32 r2]) ∧ q0s w w' := by
 have H := h
 unfold q5s.f at H
 clear h
 simp only [Option.some.injEq,Prod.mk.injEq] at H
 obtain ⟨rfl,rfl⟩ := H
 go_enter Tryz.func158,Tryz.ntmps158
 go_wp2
 go_ret2
 exact ⟨by rfl,by repeat (exact q0s.refl _)⟩
def q3d.l0 : Nat → List Int → List Int → List Int → Int → Int → Int → Option (List Int)
 | 0,_,_,_,_,_,_ => none
 | k + 1,x0,x1,x5,x6,x19,x20 => if x20 < x19 then ((q8k.f x0 x20).bind fun t295 => ((q8k.f x1 x20).bind fun t296 => ((q5s.f t295 t296 x6).bind fun bt297 => (if 0 ≤ x20 then (if x20 < (x5.length : Int) then (q3d.l0 k x0 x1 (x5.set (x20 : Int).toNat bt297.1) bt297.2 x19 (wrap64 (x20 + 1))) else (none)) else (none))))) else ((q1a.f k x5).bind fun t300 => (some t300))
def q3d.f (k : Nat) (l0 : List Int) (l1 : List Int) : Option (List Int) := (q1y.f k l0).bind fun t289 => ((q1y.f k l1).bind fun t290 => (if 0 ≤ (wrap64 ((mx t289 t290) + 1)) then (if (wrap64 ((mx t289 t290) + 1) : Int).toNat ≤ 70368744177664 then ((some (List.replicate (wrap64 ((mx t289 t290) + 1) : Int).toNat 0 : List Int)).bind fun y291 => (q3d.l0 k l0 l1 (splice y291 0 l0) 0 (y291.length : Int) 0)) else (none)) else (none)))
theorem q3d.calls (k : Nat) (A0 : Option Addr) (c0 : Nat) (l0 : List Int) (A1 : Option Addr) (c1 : Nat) (l1 : List Int) (r : List Int) (w : World) (hr0 : Kd.C (Kd.int .u32) w A0 l0.length l0) (hc0 : l0.length ≤ c0) (hr1 : Kd.C (Kd.int .u32) w A1 l1.length l1) (hc1 : l1.length ≤ c1) (h : q3d.f k l0 l1 = some r) :
  Calls Tryz.prog 143 #[.slice A0 l0.length c0,.slice A1 l1.length c1] w fun e w' => ∃ v0_ : Value,e = .returned (v0_) ∧ Kd.R (Kd.int .u32) 88 w' w.heap.size (fun _ => True) v0_ r ∧ Below w.heap.size w w' := by
 have HR0 := Aside0.mk hr0
 have HC0 := Aside0.mk hc0
 clear hr0 hc0
 have HR1 := Aside0.mk hr1
 have HC1 := Aside0.mk hc1
 clear hr1 hc1
 have HB := Aside0.mk (Below.refl w.heap.size w)
 have H := h
 unfold q3d.f at H
 clear h
 obtain ⟨t289,A30,H⟩ := bs H
 have A3 := Aside0.mk A30
 clear A30
 obtain ⟨t290,A40,H⟩ := bs H
 have A4 := Aside0.mk A40
 clear A40
 obtain ⟨ji5,hji5⟩ : ∃ j_ : Int,(mx t289 t290) = j_ := ⟨_,rfl⟩
 rw [hji5] at H
 (try rw [hji5] at A3)
 (try rw [hji5] at A4)
 have hji5_ : (if t289 < t290 then t290 else t289) = ji5 := hji5
 obtain ⟨ji6,hji6⟩ : ∃ j_ : Int,(wrap64 ((ji5) + 1)) = j_ := ⟨_,rfl⟩
 rw [hji6] at H
 (try rw [hji6] at A3)
 (try rw [hji6] at A4)
 have hji6w : (IntKind.i64.wrap ((ji5) + 1)) = ji6 := (q4i _).trans hji6
 by_cases c7 : 0 ≤ (ji6)
 ·rw [if_pos c7] at H
  have c7b0 := eq_true c7
  have c7b1 : decide (0 ≤ (ji6)) = true := decide_eq_true c7
  by_cases c8 : (ji6 : Int).toNat ≤ 70368744177664
  ·rw [if_pos c8] at H
   have c8b0 := eq_true c8
   have c8b1 : decide ((ji6 : Int).toNat ≤ 70368744177664) = true := decide_eq_true c8
   obtain ⟨y291,hy291⟩ : ∃ y_ : List Int,y_ = (List.replicate (ji6 : Int).toNat 0) := ⟨_,rfl⟩
   replace H : (q3d.l0 k l0 l1 (splice y291 0 l0) 0 (y291.length : Int) 0) = some r := by (have H2_ := (Option.bind_some _ _).symm.trans H; rw [hy291]; with_reducible exact H2_)
   have Ny291 := Aside0.mk hy291
   clear hy291
   obtain ⟨y294,hy294⟩ : ∃ y_ : List Int,y_ = (splice y291 0 l0) := ⟨_,rfl⟩
   rw [← hy294] at H
   have Ny294 := Aside0.mk hy294
   clear hy294
   have H' := Aside0.mk H
   clear H
   go_enter Tryz.func143,Tryz.ntmps143
   go_wp2_with (first | ((with_reducible refine q0b (f := 138) rfl ?_); refine q0u (some 9) rfl rfl Tryz.func138 (by kernel_rfl) rfl #[.slice A0 l0.length c0] rfl (ml) ?_; (with_reducible refine (q1y.calls k _ _ l0 t289 _ ?side1 ?side2 A3.out).mono ?_); (case side1 => repeat (exact HR0.out)); (case side2 => exact HC0.out); rintro e w' ⟨rfl,⟨nd,rfl⟩⟩; refine ⟨_,rfl,?_⟩) | ((with_reducible refine q0b (f := 138) rfl ?_); refine q0u (some 11) rfl rfl Tryz.func138 (by kernel_rfl) rfl #[.slice A1 l1.length c1] rfl (ml) ?_; (with_reducible refine (q1y.calls k _ _ l1 t290 _ ?side1 ?side2 A4.out).mono ?_); (case side1 => repeat (exact HR1.out)); (case side2 => exact HC1.out); rintro e w' ⟨rfl,⟨nd,rfl⟩⟩; refine ⟨_,rfl,?_⟩) | ((with_reducible refine q3b (N := 14) rfl ?_); refine Kd.R_make (Kd.int .u32) _ 88 rfl (N := 14) rfl 43 _ _ rfl ji6 rfl rfl Tryz.underlying43 (.int .u32 0) 4 q3a rfl (by decide) (by omega) 0 (ok := fun _ => True) (okp := fun _ => True) rfl (fun _ hk => hk) trivial (od) (Nat.le_trans (Nat.mul_le_mul_right _ (od : ji6.toNat ≤ 70368744177664)) (by omega)) (Below.refl _ _) (Nat.le_refl _) ?_; intro v292 w9 ho10 hb hg_ hnew_; clear hg_ hnew_; (rw [← Ny291.out] at ho10); have HO293 := Aside0.mk (Kd.R_lower ho10 (q0e (hb0 HB))); replace HB := Aside0.mk (q0h (hb0 HB) hb); clear hb ho10; obtain ⟨Ao13,co13,eo13⟩ := Kd.R_slice HO293.out; subst eo13) | ((with_reducible refine q1u (b := .copy) (xs := #[.tmp 15,.tmp 16]) rfl ?_); refine Kd.R_copy_whole (enc := (Value.int .u32)) (h1 := fun _ => rfl) (w0 := w) 0 w.heap.size rfl (.tmp 15) (.tmp 16) 43 43 88 rfl Tryz.underlying43 q3a (.slice Ao13 y291.length co13) y291 l0 _ _ _ (fun _ => True) rfl rfl ?aO ?aR ?aB ?aS ?_; (case aO => exact (rm HO293)); (case aR => exact cb HR0 HB); (case aB => exact (hb0 HB)); (case aS => exact (q0e (hb0 HB))); intro w12 n_ hg hp_ hb; rw [← Ny294.out] at hp_; replace HO293 := Aside0.mk (hp_); replace HB := Aside0.mk (hb); clear hb hg hp_))
   go_loopg [6,20] k (fun kq v6 v20 w' => ∃ (x5_1 : List Int) (x6_1 : Int) (x20_1 : Int),v6 = .int .u32 x6_1 ∧ v20 = .int .i64 x20_1 ∧ Aside0 (q3d.l0 kq l0 l1 x5_1 x6_1 (y291.length : Int) x20_1 = some r) ∧ Aside0 (kq ≤ k) ∧ Aside0 (Kd.R (Kd.int .u32) 88 w' w.heap.size (fun _ => True) (.slice Ao13 y291.length co13) x5_1) ∧ Aside0 (Below w.heap.size w w'))
   case atStart => exact ⟨(y294),(0),(0),(by rfl),(by rfl),H',⟨Nat.le_refl _⟩,⟨rm HO293⟩,⟨hb0 HB⟩⟩
   case round =>
    clear H'
    obtain ⟨x5_1,x6_1,x20_1,rfl,rfl,HA,HK1,HO_5,HB⟩ := hrel
    have hl5_1 := (Kd.R_reads' HO_5.out).1
    rw [hl5_1] at HO_5
    (try simp only [hl5_1])
    cases gk with
    | zero => exact absurd HA.out (by simp [q3d.l0])
    | succ k1 =>
     have H := HA.out
     clear HA
     simp only [q3d.l0] at H
     by_cases c15 : x20_1 < (y291.length : Int)
     ·rw [if_pos c15] at H
      have c15b0 : decide (x20_1 < (y291.length : Int)) = true := decide_eq_true c15
      (try simp only [hl5_1] at c15b0)
      obtain ⟨t295,A160,H⟩ := bs H
      have A16 := Aside0.mk A160
      clear A160
      obtain ⟨t296,A170,H⟩ := bs H
      have A17 := Aside0.mk A170
      clear A170
      replace H := Option.bind_eq_some_iff.mp H
      obtain ⟨⟨t297,t298⟩,A180,H⟩ := H
      replace H : (if 0 ≤ x20_1 then (if x20_1 < (x5_1.length : Int) then (q3d.l0 k1 l0 l1 (x5_1.set (x20_1 : Int).toNat t297) t298 (y291.length : Int) (wrap64 (x20_1 + 1))) else (none)) else (none)) = some r := H
      have A18 := Aside0.mk A180
      clear A180
      by_cases c19 : 0 ≤ x20_1
      ·rw [if_pos c19] at H
       have c19b0 : decide (0 ≤ x20_1) = true := decide_eq_true c19
       by_cases c20 : x20_1 < (x5_1.length : Int)
       ·rw [if_pos c20] at H
        have c20b0 : decide (x20_1 < (x5_1.length : Int)) = true := decide_eq_true c20
        (try simp only [hl5_1] at c20b0)
        obtain ⟨y299,hy299⟩ : ∃ y_ : List Int,y_ = (x5_1.set (x20_1 : Int).toNat t297) := ⟨_,rfl⟩
        rw [← hy299] at H
        have Ny299 := Aside0.mk hy299
        clear hy299
        have H' := Aside0.mk H
        clear H
        go_wp2_with (first | ((with_reducible refine q0b (f := 159) rfl ?_); refine q0u (some 28) rfl rfl Tryz.func159 (by kernel_rfl) rfl #[.slice A0 l0.length c0,.int .i64 x20_1] rfl (ml) ?_; (with_reducible refine (q8k.calls _ _ l0 x20_1 t295 _ ?side1 ?side2 A16.out).mono ?_); (case side1 => exact cb HR0 HB); (case side2 => exact HC0.out); rintro e w' ⟨rfl,⟨nd,rfl⟩⟩; refine ⟨_,rfl,?_⟩; (try (rw [q8u wr]; generalize hq_ : World.drewN wr _ = wr; have n0_ : Aside0 (Kd.R (Kd.int .u32) 88 wr w.heap.size (fun _ => True) (.slice Ao13 x5_1.length co13) x5_1) := ⟨by rw [← hq_]; exact (rm HO_5)⟩; have n1_ : Aside0 (Below w.heap.size w wr) := ⟨by rw [← hq_]; exact (hb0 HB)⟩; clear HO_5 HB hq_; have HO_5 := n0_; have HB := n1_; clear n0_ n1_))) | ((with_reducible refine q0b (f := 159) rfl ?_); refine q0u (some 31) rfl rfl Tryz.func159 (by kernel_rfl) rfl #[.slice A1 l1.length c1,.int .i64 x20_1] rfl (ml) ?_; (with_reducible refine (q8k.calls _ _ l1 x20_1 t296 _ ?side1 ?side2 A17.out).mono ?_); (case side1 => exact cb HR1 HB); (case side2 => exact HC1.out); rintro e w' ⟨rfl,⟨nd,rfl⟩⟩; refine ⟨_,rfl,?_⟩; (try (rw [q8u wr]; generalize hq_ : World.drewN wr _ = wr; have n0_ : Aside0 (Kd.R (Kd.int .u32) 88 wr w.heap.size (fun _ => True) (.slice Ao13 x5_1.length co13) x5_1) := ⟨by rw [← hq_]; exact (rm HO_5)⟩; have n1_ : Aside0 (Below w.heap.size w wr) := ⟨by rw [← hq_]; exact (hb0 HB)⟩; clear HO_5 HB hq_; have HO_5 := n0_; have HB := n1_; clear n0_ n1_))) | ((with_reducible refine q0b (f := 158) rfl ?_); refine q0u (some 33) rfl rfl Tryz.func158 (by kernel_rfl) rfl #[.int .u32 t295,.int .u32 t296,.int .u32 x6_1] rfl (ml) ?_; (with_reducible refine (q5s.calls t295 t296 x6_1 t297 t298 _ A18.out).mono ?_); rintro e w' ⟨rfl,⟨nd,rfl⟩⟩; refine ⟨_,rfl,?_⟩; (try (rw [q8u wr]; generalize hq_ : World.drewN wr _ = wr; have n0_ : Aside0 (Kd.R (Kd.int .u32) 88 wr w.heap.size (fun _ => True) (.slice Ao13 x5_1.length co13) x5_1) := ⟨by rw [← hq_]; exact (rm HO_5)⟩; have n1_ : Aside0 (Below w.heap.size w wr) := ⟨by rw [← hq_]; exact (hb0 HB)⟩; clear HO_5 HB hq_; have HO_5 := n0_; have HB := n1_; clear n0_ n1_)); have p21 : 0 ≤ (x20_1 : Int) := od; have q21 : (x20_1 : Int) < ((x5_1.length : Int) : Int) := od; obtain ⟨go21,co21,eo21,gb21,gl21,cl21,HG21⟩ := Kd.R_form HO_5.out (by omega); (cases eo21); have GB21 := Aside0.mk gb21; have GG21 := Aside0.mk HG21; clear gb21 gl21 HG21; obtain ⟨hx21_0,hf21_0⟩ := Kd.R_celln 0 HO_5.out (x20_1 : Int) p21 q21; replace p21 := eq_true p21; replace q21 := eq_true q21; obtain ⟨hy22_,hz22_⟩ := Kd.R_celln 0 HO_5.out (x20_1 : Int) (od) (od); have HP22 := Kd.R_putg HO_5.out (x20_1 : Int) t297) | ((with_reducible refine q5c (t := 88) (p := 36) rfl ?_); refine q4m (t := 88) (p := 36) (v := ?vo_w23) (w1 := (wr.setCell ⟨go21,(x20_1 : Int).toNat,none⟩ (.int .u32 t297))) ?hg ?ho ?hn ?hr ?_; (case ho => rfl); (case hg => rfl); (case hn => rfl); (case hr => (go_simp; done)); intro w23 hw; have hg : wr.grownBy w23 (some go21) := (by rw [hw]; exact HP22.2); have hp_ : Kd.R (Kd.int .u32) 88 w23 w.heap.size (fun _ => True) (.slice (some ⟨go21,0,none⟩) x5_1.length co13) y299 := (by rw [hw,Ny299.out]; exact HP22.1); clear HP22; replace HO_5 := Aside0.mk (hp_); replace HB := Aside0.mk ((by rw [hw]; exact q2s (HB.out) GB21.out : Below w.heap.size w w23)); clear hg hw hp_))
        (try simp only [← hl5_1])
        go_roundg k1
        case measure => have := HK1.out; omega
        case rel => exact ⟨(y299),(t298),(wrap64 (x20_1 + 1)),(by rfl),(by rfl),H',⟨by have := HK1.out; omega⟩,⟨by (try simp only [hl5_1]); (with_reducible repeat (apply Kd.R_drew)); exact HO_5.out⟩,⟨hb0 HB⟩⟩
       ·rw [if_neg c20] at H
        cases H
      ·rw [if_neg c19] at H
       cases H
     ·rw [if_neg c15] at H
      have c15b0 : decide (x20_1 < (y291.length : Int)) = false := decide_eq_false c15
      (try simp only [hl5_1] at c15b0)
      obtain ⟨t300,A240,H⟩ := bs H
      have A24 := Aside0.mk A240
      clear A240
      obtain rfl := Option.some.inj H
      go_wp2_with (((with_reducible refine q0b (f := 133) rfl ?_); refine q0u (some 39) rfl rfl Tryz.func133 (by kernel_rfl) rfl #[.slice Ao13 x5_1.length co13] rfl (ml) ?_; (with_reducible refine (q1a.calls k1 _ _ x5_1 t300 _ ?side1 ?side2 A24.out).mono ?_); (case side1 => exact cr HO_5); (case side2 => exact (Kd.R_reads' HO_5.out).2.1); rintro e w25 ⟨v301,rfl,ho0,hb⟩; refine ⟨_,rfl,?_⟩; have HO302 := Aside0.mk (Kd.R_lower (Kd.R_new' ho0 (Kd.R_lt (rm HO_5))) (q0e (hb0 HB))); replace HO_5 := Aside0.mk (Kd.R_elder' (rm HO_5) (Kd.R_base ho0) hb); replace HB := Aside0.mk (q0h (hb0 HB) hb)))
      go_ret
      exact ⟨_,by rfl,by (with_reducible repeat (apply Kd.R_drew)); exact Kd.R_mono HO302.out (fun _ hk => trivial),hb0 HB⟩
  ·rw [if_neg c8] at H
   cases H
 ·rw [if_neg c7] at H
  cases H
def q0m.f (l0 : List Int) (a1 : Int) : Option (Int) := if a1 ≥ (l0.length : Int) then (some 0) else (if 0 ≤ a1 then (if a1 < (l0.length : Int) then (some (IntKind.u64.wrap (rd l0 a1))) else (none)) else (none))
theorem q0m.calls (A0 : Option Addr) (c0 : Nat) (l0 : List Int) (a1 : Int) (r : Int) (w : World) (hr0 : Kd.C (Kd.int .u32) w A0 l0.length l0) (hc0 : l0.length ≤ c0) (h : q0m.f l0 a1 = some r) :
  Calls Tryz.prog 129 #[.slice A0 l0.length c0,.int .i64 a1] w fun e w' => e = .returned (.int .u64 r) ∧ q0s w w' := by
 have HR0 := Aside0.mk hr0
 have HC0 := Aside0.mk hc0
 clear hr0 hc0
 have H := h
 unfold q0m.f at H
 clear h
 by_cases c3 : a1 ≥ (l0.length : Int)
 ·rw [if_pos c3] at H
  have c3b0 : decide ((l0.length : Int) ≤ a1) = true := decide_eq_true c3
  obtain rfl := Option.some.inj H
  go_enter Tryz.func129,Tryz.ntmps129
  go_wp2
  go_ret
  exact ⟨by rfl,by repeat (exact q0s.refl _)⟩
 ·rw [if_neg c3] at H
  have c3b0 : decide ((l0.length : Int) ≤ a1) = false := decide_eq_false c3
  by_cases c4 : 0 ≤ a1
  ·rw [if_pos c4] at H
   have c4b0 : decide (0 ≤ a1) = true := decide_eq_true c4
   by_cases c5 : a1 < (l0.length : Int)
   ·rw [if_pos c5] at H
    have c5b0 : decide (a1 < (l0.length : Int)) = true := decide_eq_true c5
    obtain rfl := Option.some.inj H
    have p303 : 0 ≤ (a1 : Int) := od
    have q303 : a1 < (l0.length : Int) := od
    obtain ⟨ad303,e303,hx303_0⟩ := Kd.at_int HR0.out a1 p303 q303
    cases e303
    replace p303 := eq_true p303
    replace q303 := eq_true q303
    go_enter Tryz.func129,Tryz.ntmps129
    go_wp2
    go_ret
    exact ⟨by rfl,by repeat (exact q0s.refl _)⟩
   ·rw [if_neg c5] at H
    cases H
  ·rw [if_neg c4] at H
   cases H
def q0n.l0 : Nat → List Int → List Int → Int → Option (Int)
 | 0,_,_,_ => none
 | k + 1,x0,x1,x5 => if x5 ≥ 0 then ((q0m.f x0 x5).bind fun t304 => ((q0m.f x1 x5).bind fun t305 => (if t304 < t305 then (some (-1)) else ((q0m.f x0 x5).bind fun t306 => ((q0m.f x1 x5).bind fun t307 => (if t306 > t307 then (some 1) else (q0n.l0 k x0 x1 (wrap64 (x5 - 1))))))))) else (some 0)
def q0n.f (k : Nat) (l0 : List Int) (l1 : List Int) : Option (Int) := q0n.l0 k l0 l1 (wrap64 ((mx (l0.length : Int) (l1.length : Int)) - 1))
theorem q0n.calls (k : Nat) (A0 : Option Addr) (c0 : Nat) (l0 : List Int) (A1 : Option Addr) (c1 : Nat) (l1 : List Int) (r : Int) (w : World) (hr0 : Kd.C (Kd.int .u32) w A0 l0.length l0) (hc0 : l0.length ≤ c0) (hr1 : Kd.C (Kd.int .u32) w A1 l1.length l1) (hc1 : l1.length ≤ c1) (h : q0n.f k l0 l1 = some r) :
  Calls Tryz.prog 100 #[.slice A0 l0.length c0,.slice A1 l1.length c1] w fun e w' => e = .returned (.int .i64 r) ∧ Below w.heap.size w w' := by
 have HR0 := Aside0.mk hr0
 have HC0 := Aside0.mk hc0
 clear hr0 hc0
 have HR1 := Aside0.mk hr1
 have HC1 := Aside0.mk hc1
 clear hr1 hc1
 have HB := Aside0.mk (Below.refl w.heap.size w)
 have H := h
 unfold q0n.f at H
 clear h
 obtain ⟨ji3,hji3⟩ : ∃ j_ : Int,(mx (l0.length : Int) (l1.length : Int)) = j_ := ⟨_,rfl⟩
 rw [hji3] at H
 (try (have hji3l : 0 ≤ ji3 := by (rw [← hji3]; unfold mx; (repeat' split) <;> omega)))
 (try (have hji3m : 0 ≤ ji3 := by omega))
 have hji3_ : (if (l0.length : Int) < (l1.length : Int) then (l1.length : Int) else (l0.length : Int)) = ji3 := hji3
 (try (have hji3n := hji3_; simp only [Int.ofNat_lt] at hji3n))
 have H' := Aside0.mk H
 clear H
 go_enter Tryz.func100,Tryz.ntmps100
 go_wp2
 go_loopg [5] k (fun kq v5 w' => ∃ (x5_1 : Int),v5 = .int .i64 x5_1 ∧ Aside0 (q0n.l0 kq l0 l1 x5_1 = some r) ∧ Aside0 (kq ≤ k) ∧ Aside0 (Below w.heap.size w w'))
 case atStart => exact ⟨(wrap64 ((ji3) - 1)),(by rfl),H',⟨Nat.le_refl _⟩,⟨hb0 HB⟩⟩
 case round =>
  clear H'
  obtain ⟨x5_1,rfl,HA,HK1,HB⟩ := hrel
  cases gk with
  | zero => exact absurd HA.out (by simp [q0n.l0])
  | succ k1 =>
   have H := HA.out
   clear HA
   simp only [q0n.l0] at H
   by_cases c4 : x5_1 ≥ 0
   ·rw [if_pos c4] at H
    have c4b0 : decide (0 ≤ x5_1) = true := decide_eq_true c4
    obtain ⟨t304,A50,H⟩ := bs H
    have A5 := Aside0.mk A50
    clear A50
    obtain ⟨t305,A60,H⟩ := bs H
    have A6 := Aside0.mk A60
    clear A60
    by_cases c7 : t304 < t305
    ·rw [if_pos c7] at H
     have c7b0 : decide (t304 < t305) = true := decide_eq_true c7
     obtain rfl := Option.some.inj H
     go_wp2_with (first | ((with_reducible refine q0b (f := 129) rfl ?_); refine q0u (some 18) rfl rfl Tryz.func129 (by kernel_rfl) rfl #[.slice A0 l0.length c0,.int .i64 x5_1] rfl (ml) ?_; (with_reducible refine (q0m.calls _ _ l0 x5_1 t304 _ ?side1 ?side2 A5.out).mono ?_); (case side1 => exact cb HR0 HB); (case side2 => exact HC0.out); rintro e w' ⟨rfl,⟨nd,rfl⟩⟩; refine ⟨_,rfl,?_⟩) | ((with_reducible refine q0b (f := 129) rfl ?_); refine q0u (some 21) rfl rfl Tryz.func129 (by kernel_rfl) rfl #[.slice A1 l1.length c1,.int .i64 x5_1] rfl (ml) ?_; (with_reducible refine (q0m.calls _ _ l1 x5_1 t305 _ ?side1 ?side2 A6.out).mono ?_); (case side1 => repeat (exact (Kd.C_below HR1.out (hb0 HB)))); (case side2 => exact HC1.out); rintro e w' ⟨rfl,⟨nd,rfl⟩⟩; refine ⟨_,rfl,?_⟩))
     go_ret
     exact ⟨by rfl,hb0 HB⟩
    ·rw [if_neg c7] at H
     have c7b0 : decide (t304 < t305) = false := decide_eq_false c7
     obtain ⟨t306,A80,H⟩ := bs H
     have A8 := Aside0.mk A80
     clear A80
     obtain ⟨t307,A90,H⟩ := bs H
     have A9 := Aside0.mk A90
     clear A90
     by_cases c10 : t306 > t307
     ·rw [if_pos c10] at H
      have c10b0 : decide (t307 < t306) = true := decide_eq_true c10
      obtain rfl := Option.some.inj H
      go_wp2_with (first | ((with_reducible refine q0b (f := 129) rfl ?_); refine q0u (some 18) rfl rfl Tryz.func129 (by kernel_rfl) rfl #[.slice A0 l0.length c0,.int .i64 x5_1] rfl (ml) ?_; (with_reducible refine (q0m.calls _ _ l0 x5_1 t304 _ ?side1 ?side2 A5.out).mono ?_); (case side1 => exact cb HR0 HB); (case side2 => exact HC0.out); rintro e w' ⟨rfl,⟨nd,rfl⟩⟩; refine ⟨_,rfl,?_⟩) | ((with_reducible refine q0b (f := 129) rfl ?_); refine q0u (some 21) rfl rfl Tryz.func129 (by kernel_rfl) rfl #[.slice A1 l1.length c1,.int .i64 x5_1] rfl (ml) ?_; (with_reducible refine (q0m.calls _ _ l1 x5_1 t305 _ ?side1 ?side2 A6.out).mono ?_); (case side1 => repeat (exact (Kd.C_below HR1.out (hb0 HB)))); (case side2 => exact HC1.out); rintro e w' ⟨rfl,⟨nd,rfl⟩⟩; refine ⟨_,rfl,?_⟩) | ((with_reducible refine q0b (f := 129) rfl ?_); refine q0u (some 25) rfl rfl Tryz.func129 (by kernel_rfl) rfl #[.slice A0 l0.length c0,.int .i64 x5_1] rfl (ml) ?_; (with_reducible refine (q0m.calls _ _ l0 x5_1 t306 _ ?side1 ?side2 A8.out).mono ?_); (case side1 => repeat (exact (Kd.C_below HR0.out (hb0 HB)))); (case side2 => exact HC0.out); rintro e w' ⟨rfl,⟨nd,rfl⟩⟩; refine ⟨_,rfl,?_⟩) | ((with_reducible refine q0b (f := 129) rfl ?_); refine q0u (some 28) rfl rfl Tryz.func129 (by kernel_rfl) rfl #[.slice A1 l1.length c1,.int .i64 x5_1] rfl (ml) ?_; (with_reducible refine (q0m.calls _ _ l1 x5_1 t307 _ ?side1 ?side2 A9.out).mono ?_); (case side1 => repeat (exact (Kd.C_below HR1.out (hb0 HB)))); (case side2 => exact HC1.out); rintro e w' ⟨rfl,⟨nd,rfl⟩⟩; refine ⟨_,rfl,?_⟩))
      go_ret
      exact ⟨by rfl,hb0 HB⟩
     ·rw [if_neg c10] at H
      have c10b0 : decide (t307 < t306) = false := decide_eq_false c10
      have H' := Aside0.mk H
      clear H
      go_wp2_with (first | ((with_reducible refine q0b (f := 129) rfl ?_); refine q0u (some 18) rfl rfl Tryz.func129 (by kernel_rfl) rfl #[.slice A0 l0.length c0,.int .i64 x5_1] rfl (ml) ?_; (with_reducible refine (q0m.calls _ _ l0 x5_1 t304 _ ?side1 ?side2 A5.out).mono ?_); (case side1 => exact cb HR0 HB); (case side2 => exact HC0.out); rintro e w' ⟨rfl,⟨nd,rfl⟩⟩; refine ⟨_,rfl,?_⟩) | ((with_reducible refine q0b (f := 129) rfl ?_); refine q0u (some 21) rfl rfl Tryz.func129 (by kernel_rfl) rfl #[.slice A1 l1.length c1,.int .i64 x5_1] rfl (ml) ?_; (with_reducible refine (q0m.calls _ _ l1 x5_1 t305 _ ?side1 ?side2 A6.out).mono ?_); (case side1 => repeat (exact (Kd.C_below HR1.out (hb0 HB)))); (case side2 => exact HC1.out); rintro e w' ⟨rfl,⟨nd,rfl⟩⟩; refine ⟨_,rfl,?_⟩) | ((with_reducible refine q0b (f := 129) rfl ?_); refine q0u (some 25) rfl rfl Tryz.func129 (by kernel_rfl) rfl #[.slice A0 l0.length c0,.int .i64 x5_1] rfl (ml) ?_; (with_reducible refine (q0m.calls _ _ l0 x5_1 t306 _ ?side1 ?side2 A8.out).mono ?_); (case side1 => repeat (exact (Kd.C_below HR0.out (hb0 HB)))); (case side2 => exact HC0.out); rintro e w' ⟨rfl,⟨nd,rfl⟩⟩; refine ⟨_,rfl,?_⟩) | ((with_reducible refine q0b (f := 129) rfl ?_); refine q0u (some 28) rfl rfl Tryz.func129 (by kernel_rfl) rfl #[.slice A1 l1.length c1,.int .i64 x5_1] rfl (ml) ?_; (with_reducible refine (q0m.calls _ _ l1 x5_1 t307 _ ?side1 ?side2 A9.out).mono ?_); (case side1 => repeat (exact (Kd.C_below HR1.out (hb0 HB)))); (case side2 => exact HC1.out); rintro e w' ⟨rfl,⟨nd,rfl⟩⟩; refine ⟨_,rfl,?_⟩))
      go_roundg k1
      case measure => have := HK1.out; omega
      case rel => exact ⟨(wrap64 (x5_1 - 1)),(by rfl),H',⟨by have := HK1.out; omega⟩,⟨hb0 HB⟩⟩
   ·rw [if_neg c4] at H
    have c4b0 : decide (0 ≤ x5_1) = false := decide_eq_false c4
    obtain rfl := Option.some.inj H
    go_wp2
    go_ret
    exact ⟨by rfl,hb0 HB⟩
def q0a.l0 : Nat → List Int → Int → Option (List Int)
  | 0,_,_ => none
  | k + 1,x0,x3 => if x3 > 0 then (if 0 ≤ (wrap64 (x3 - 1)) then (if (wrap64 (x3 - 1)) < (x0.length : Int) then (if (rd x0 (wrap64 (x3 - 1))) = 0 then (q0a.l0 k x0 (wrap64 (x3 - 1))) else ((some (([] : List Int) : List Int)).bind fun y309 => (if 0 ≤ x3 then (if x3 ≤ (x0.length : Int) then (if y309.length + (x0.take (x3 : Int).toNat).length < 35184372088832 then (some (y309 ++ (x0.take (x3 : Int).toNat))) else (none)) else (none)) else (none)))) else (none)) else (none)) else ((some (([] : List Int) : List Int)).bind fun y316 => (if 0 ≤ x3 then (if x3 ≤ (x0.length : Int) then (if y316.length + (x0.take (x3 : Int).toNat).length < 35184372088832 then (some (y316 ++ (x0.take (x3 : Int).toNat))) else (none)) else (none)) else (none)))
def q0a.f (k : Nat) (l0 : List Int) : Option (List Int) := q0a.l0 k l0 (l0.length : Int)
theorem q0a.calls (k : Nat) (A0 : Option Addr) (c0 : Nat) (l0 : List Int) (r : List Int) (w : World) (hr0 : Kd.C (Kd.int .u32) w A0 l0.length l0) (hc0 : l0.length ≤ c0) (h : q0a.f k l0 = some r) :
    Calls Tryz.prog 63 #[.slice A0 l0.length c0] w fun e w' => ∃ v0_ : Value,e = .returned (v0_) ∧ Kd.R (Kd.int .u32) 88 w' w.heap.size (fun _ => True) v0_ r ∧ Below w.heap.size w w' := by
  have HR0 := Aside0.mk hr0
  have HC0 := Aside0.mk hc0
  clear hr0 hc0
  have HB := Aside0.mk (Below.refl w.heap.size w)
  have H : (q0a.l0 k l0 (l0.length : Int)) = some r := h
  clear h
  have H' := Aside0.mk H
  clear H
  go_enter Tryz.func63,Tryz.ntmps63
  go_wp2
  go_loopg [3] k (fun kq v3 w' => ∃ (x3_1 : Int),v3 = .int .i64 x3_1 ∧ Aside0 (q0a.l0 kq l0 x3_1 = some r) ∧ Aside0 (kq ≤ k) ∧ Aside0 (Below w.heap.size w w'))
  case atStart => exact ⟨((l0.length : Int)),(by rfl),H',⟨Nat.le_refl _⟩,⟨by repeat ((with_reducible exact HB.out))⟩⟩
  case round =>
    clear H'
    obtain ⟨x3_1,rfl,HA,HK1,HB⟩ := hrel
    cases gk with
    | zero => exact absurd HA.out (by simp [q0a.l0])
    | succ k1 =>
      have H := HA.out
      clear HA
      simp only [q0a.l0] at H
      by_cases c2 : x3_1 > 0
      · rw [if_pos c2] at H
        have c2b0 : decide (0 < x3_1) = true := decide_eq_true c2
        obtain ⟨ji3,hji3⟩ : ∃ j_ : Int,(wrap64 (x3_1 - 1)) = j_ := ⟨_,rfl⟩
        rw [hji3] at H
        have hji3w : (IntKind.i64.wrap (x3_1 - 1)) = ji3 := (q4i _).trans hji3
        by_cases c4 : 0 ≤ (ji3)
        · rw [if_pos c4] at H
          have c4b0 : decide (0 ≤ (ji3)) = true := decide_eq_true c4
          by_cases c5 : (ji3) < (l0.length : Int)
          · rw [if_pos c5] at H
            have c5b0 : decide ((ji3) < (l0.length : Int)) = true := decide_eq_true c5
            by_cases c6 : (rd l0 (ji3)) = 0
            · rw [if_pos c6] at H
              have c6b0 : ((rd l0 (ji3)) == 0) = true := beq_iff_eq.mpr c6
              have c6b1 : ((rd l0 (ji3)) != 0) = false := bne_eq_false_iff_eq.mpr c6
              have H' := Aside0.mk H
              clear H
              have p308 : 0 ≤ ((ji3) : Int) := od
              have q308 : (ji3) < (l0.length : Int) := od
              obtain ⟨ad308,e308,hx308_0⟩ := Kd.at_int HR0.out (ji3) p308 q308
              cases e308
              replace hx308_0 := (HB.out.cell (World.block_lt_of_cell? w _ hx308_0)).trans hx308_0
              replace p308 := eq_true p308
              replace q308 := eq_true q308
              go_wp2
              go_roundg k1
              case measure => have := HK1.out; omega
              case rel => exact ⟨(ji3),(by rfl),H',⟨by have := HK1.out; omega⟩,⟨by repeat ((with_reducible exact HB.out))⟩⟩
            · rw [if_neg c6] at H
              have c6b0 : ((rd l0 (ji3)) == 0) = false := beq_eq_false_iff_ne.mpr c6
              have c6b1 : ((rd l0 (ji3)) != 0) = true := bne_iff_ne.mpr c6
              obtain ⟨y309,hy309⟩ : ∃ y_ : List Int,y_ = (([] : List Int)) := ⟨_,rfl⟩
              replace H : (if 0 ≤ x3_1 then (if x3_1 ≤ (l0.length : Int) then (if y309.length + (l0.take (x3_1 : Int).toNat).length < 35184372088832 then (some (y309 ++ (l0.take (x3_1 : Int).toNat))) else (none)) else (none)) else (none)) = some r := by (have H2_ := (Option.bind_some _ _).symm.trans H; rw [hy309]; with_reducible exact H2_)
              have Ny309 := Aside0.mk hy309
              clear hy309
              by_cases c7 : 0 ≤ x3_1
              · rw [if_pos c7] at H
                have c7b0 := eq_true c7
                have c7b1 : decide (0 ≤ x3_1) = true := decide_eq_true c7
                by_cases c8 : x3_1 ≤ (l0.length : Int)
                · rw [if_pos c8] at H
                  have c8b0 := eq_true c8
                  have c8b1 : decide (x3_1 ≤ (l0.length : Int)) = true := decide_eq_true c8
                  by_cases c9 : y309.length + (l0.take (x3_1 : Int).toNat).length < 35184372088832
                  · rw [if_pos c9] at H
                    have LMc9 := Aside0.mk c9
                    obtain ⟨y313,hy313⟩ : ∃ y_ : List Int,y_ = (y309 ++ (l0.take (x3_1 : Int).toNat)) := ⟨_,rfl⟩
                    rw [← hy313] at H
                    have Ny313 := Aside0.mk hy313
                    clear hy313
                    obtain rfl := Option.some.inj H
                    have p308 : 0 ≤ ((ji3) : Int) := od
                    have q308 : (ji3) < (l0.length : Int) := od
                    obtain ⟨ad308,e308,hx308_0⟩ := Kd.at_int HR0.out (ji3) p308 q308
                    cases e308
                    replace hx308_0 := (HB.out.cell (World.block_lt_of_cell? w _ hx308_0)).trans hx308_0
                    replace p308 := eq_true p308
                    replace q308 := eq_true q308
                    go_wp2_with (first | ((with_reducible refine q3b (N := 18) rfl ?_); refine Kd.R_lit (Kd.int .u32) _ 88 ?hg (N := 18) ?hd (xs := ([] : List Int)) (inner := []) (ok := fun _ => True) (okp := fun _ => True) ?hr ?hp (fun _ hk => hk) trivial (Below.refl _ _) (Nat.le_refl _) (by simp) ?_; (case hd => rfl); (case hg => rfl); (case hr => (go_simp; done)); (case hp => exact (Reps.none _ _)); intro v310 w10 ho11 hb hg_ hnew_; clear hg_ hnew_; (rw [← Ny309.out] at ho11); have n0_ := Aside0.mk (Kd.R_lower ho11 (q0e (by repeat ((with_reducible exact HB.out))))); have n1_ := Aside0.mk (q0h (by repeat ((with_reducible exact HB.out))) hb); clear HB; have HO311 := n0_; have HB := n1_; clear n0_ n1_; clear hb ho11; obtain ⟨i012,hi012,_,hsz12,_⟩ := info_parts q3a; obtain ⟨hcut12,hA12,hC12⟩ := q9v (P := Tryz.prog) (Value.int .u32) 0 43 88 .i64 Tryz.underlying43 hi012 hsz12 (some ad308) c0 l0 x3_1 (od) (od) HC0.out; have HR312 := Aside0.mk (Kd.C_of_reads (h1 := fun _ => rfl) (hA12 _ (Kd.reads_of_C HR0.out))); have HC312 := Aside0.mk hC12; clear hA12 hC12 hi012 hsz12) | ((with_reducible refine q1u (b := .append) (xs := #[.tmp 18,.tmp 21]) rfl ?_); at_builtin; refine Kd.R_append_rows (Kd.int .u32) (w0 := w) w.heap.size rfl (.tmp 18) (.tmp 21) 43 88 (.int .u32 0) 4 rfl Tryz.underlying43 q3a rfl (by decide) (by omega) v310 y309 (l0.take (x3_1 : Int).toNat) _ _ _ (fun _ => True) (fun _ => False) rfl rfl ?aO ?aR (fun _ _ h => h) (fun _ h => h.elim) ?aF ?aB ?aS ?aL ?_; (case aR => (have e_ := (Kd.C_below HR312.out HB.out); rw [show (l0.take (x3_1 : Int).toNat).length = x3_1.toNat from (by rw [List.length_take]; have h_ : (x3_1 : Int) ≤ (l0.length : Int) := od; omega)] at e_; exact e_)); (case aB => exact (by repeat ((with_reducible exact HB.out)))); (case aF => exact (fun _ _ => trivial)); (case aO => exact (by (with_reducible repeat (apply Kd.R_drew)); exact HO311.out)); (case aS => exact (q0e (by repeat ((with_reducible exact HB.out))))); (case aL => have := LMc9.out; have hlx_ := (show (l0.take (x3_1 : Int).toNat).length = x3_1.toNat from (by rw [List.length_take]; have h_ : (x3_1 : Int) ≤ (l0.length : Int) := od; omega)); omega); intro v314 w13 ho hb hg hat; rw [← Ny313.out] at ho; have n0_ := Aside0.mk (hb); have n1_ := Aside0.mk (ho); clear HB; clear HO311; have HB := n0_; have HO315 := n1_; clear n0_ n1_; clear ho hb hg hat))
                    go_ret
                    exact ⟨_,by rfl,by (with_reducible repeat (apply Kd.R_drew)); exact HO315.out,by repeat ((with_reducible exact HB.out))⟩
                  · rw [if_neg c9] at H
                    cases H
                · rw [if_neg c8] at H
                  cases H
              · rw [if_neg c7] at H
                cases H
          · rw [if_neg c5] at H
            cases H
        · rw [if_neg c4] at H
          cases H
      · rw [if_neg c2] at H
        have c2b0 : decide (0 < x3_1) = false := decide_eq_false c2
        obtain ⟨y316,hy316⟩ : ∃ y_ : List Int,y_ = (([] : List Int)) := ⟨_,rfl⟩
        replace H : (if 0 ≤ x3_1 then (if x3_1 ≤ (l0.length : Int) then (if y316.length + (l0.take (x3_1 : Int).toNat).length < 35184372088832 then (some (y316 ++ (l0.take (x3_1 : Int).toNat))) else (none)) else (none)) else (none)) = some r := by (have H2_ := (Option.bind_some _ _).symm.trans H; rw [hy316]; with_reducible exact H2_)
        have Ny316 := Aside0.mk hy316
        clear hy316
        by_cases c14 : 0 ≤ x3_1
        · rw [if_pos c14] at H
          have c14b0 := eq_true c14
          have c14b1 : decide (0 ≤ x3_1) = true := decide_eq_true c14
          by_cases c15 : x3_1 ≤ (l0.length : Int)
          · rw [if_pos c15] at H
            have c15b0 := eq_true c15
            have c15b1 : decide (x3_1 ≤ (l0.length : Int)) = true := decide_eq_true c15
            by_cases c16 : y316.length + (l0.take (x3_1 : Int).toNat).length < 35184372088832
            · rw [if_pos c16] at H
              have LMc16 := Aside0.mk c16
              obtain ⟨y320,hy320⟩ : ∃ y_ : List Int,y_ = (y316 ++ (l0.take (x3_1 : Int).toNat)) := ⟨_,rfl⟩
              rw [← hy320] at H
              have Ny320 := Aside0.mk hy320
              clear hy320
              obtain rfl := Option.some.inj H
              go_wp2_with (first | ((with_reducible refine q3b (N := 18) rfl ?_); refine Kd.R_lit (Kd.int .u32) _ 88 ?hg (N := 18) ?hd (xs := ([] : List Int)) (inner := []) (ok := fun _ => True) (okp := fun _ => True) ?hr ?hp (fun _ hk => hk) trivial (Below.refl _ _) (Nat.le_refl _) (by simp) ?_; (case hd => rfl); (case hg => rfl); (case hr => (go_simp; done)); (case hp => exact (Reps.none _ _)); intro v317 w17 ho18 hb hg_ hnew_; clear hg_ hnew_; (rw [← Ny316.out] at ho18); have n0_ := Aside0.mk (Kd.R_lower ho18 (q0e (by repeat ((with_reducible exact HB.out))))); have n1_ := Aside0.mk (q0h (by repeat ((with_reducible exact HB.out))) hb); clear HB; have HO318 := n0_; have HB := n1_; clear n0_ n1_; clear hb ho18; obtain ⟨i019,hi019,_,hsz19,_⟩ := info_parts q3a; obtain ⟨hcut19,hA19,hC19⟩ := q9v (P := Tryz.prog) (Value.int .u32) 0 43 88 .i64 Tryz.underlying43 hi019 hsz19 A0 c0 l0 x3_1 (od) (od) HC0.out; have HR319 := Aside0.mk (Kd.C_of_reads (h1 := fun _ => rfl) (hA19 _ (Kd.reads_of_C HR0.out))); have HC319 := Aside0.mk hC19; clear hA19 hC19 hi019 hsz19) | ((with_reducible refine q1u (b := .append) (xs := #[.tmp 18,.tmp 21]) rfl ?_); at_builtin; refine Kd.R_append_rows (Kd.int .u32) (w0 := w) w.heap.size rfl (.tmp 18) (.tmp 21) 43 88 (.int .u32 0) 4 rfl Tryz.underlying43 q3a rfl (by decide) (by omega) v317 y316 (l0.take (x3_1 : Int).toNat) _ _ _ (fun _ => True) (fun _ => False) rfl rfl ?aO ?aR (fun _ _ h => h) (fun _ h => h.elim) ?aF ?aB ?aS ?aL ?_; (case aR => (have e_ := (Kd.C_below HR319.out HB.out); rw [show (l0.take (x3_1 : Int).toNat).length = x3_1.toNat from (by rw [List.length_take]; have h_ : (x3_1 : Int) ≤ (l0.length : Int) := od; omega)] at e_; exact e_)); (case aB => exact (by repeat ((with_reducible exact HB.out)))); (case aF => exact (fun _ _ => trivial)); (case aO => exact (by (with_reducible repeat (apply Kd.R_drew)); exact HO318.out)); (case aS => exact (q0e (by repeat ((with_reducible exact HB.out))))); (case aL => have := LMc16.out; have hlx_ := (show (l0.take (x3_1 : Int).toNat).length = x3_1.toNat from (by rw [List.length_take]; have h_ : (x3_1 : Int) ≤ (l0.length : Int) := od; omega)); omega); intro v321 w20 ho hb hg hat; rw [← Ny320.out] at ho; have n0_ := Aside0.mk (hb); have n1_ := Aside0.mk (ho); clear HB; clear HO318; have HB := n0_; have HO322 := n1_; clear n0_ n1_; clear ho hb hg hat))
              go_ret
              exact ⟨_,by rfl,by (with_reducible repeat (apply Kd.R_drew)); exact HO322.out,by repeat ((with_reducible exact HB.out))⟩
            · rw [if_neg c16] at H
              cases H
          · rw [if_neg c15] at H
            cases H
        · rw [if_neg c14] at H
          cases H
mutual
def q0f.l0 : Nat → List Int → List Int → List Int → Int → Int → Option (List Int)
 | 0,_,_,_,_,_ => none
 | k + 1,x0,x1,x5,x6,x7 => if x7 < (x0.length : Int) then (q0f.j1 k x0 x1 x5 x6 x7 true) else (if x7 < (x1.length : Int) then (q0f.j1 k x0 x1 x5 x6 x7 true) else (q0f.j1 k x0 x1 x5 x6 x7 (decide (x6 > 0))))
def q0f.j1 : Nat → List Int → List Int → List Int → Int → Int → Bool → Option (List Int)
 | 0,_,_,_,_,_,_ => none
 | k + 1,x0,x1,x5,x6,x7,x21 => if x21 = true then ((q0m.f x0 x7).bind fun t323 => ((q0m.f x1 x7).bind fun t324 => (if x5.length < 35184372088832 then (q0f.l0 k x0 x1 (x5 ++ [(IntKind.u64.wrap (x6 + (IntKind.u64.wrap (t323 + t324)))) % 4294967296]) ((IntKind.u64.wrap (x6 + (IntKind.u64.wrap (t323 + t324)))) / 4294967296) (wrap64 (x7 + 1))) else (none)))) else ((q0a.f k x5).bind fun t328 => (some t328))
end
def q0f.f (k : Nat) (l0 : List Int) (l1 : List Int) : Option (List Int) := q0f.l0 k l0 l1 ([] : List Int) 0 0
theorem q0f.calls (k : Nat) (A0 : Option Addr) (c0 : Nat) (l0 : List Int) (A1 : Option Addr) (c1 : Nat) (l1 : List Int) (r : List Int) (w : World) (hr0 : Kd.C (Kd.int .u32) w A0 l0.length l0) (hc0 : l0.length ≤ c0) (hr1 : Kd.C (Kd.int .u32) w A1 l1.length l1) (hc1 : l1.length ≤ c1) (h : q0f.f k l0 l1 = some r) :
  Calls Tryz.prog 99 #[.slice A0 l0.length c0,.slice A1 l1.length c1] w fun e w' => ∃ v0_ : Value,e = .returned (v0_) ∧ Kd.R (Kd.int .u32) 88 w' w.heap.size (fun _ => True) v0_ r ∧ Below w.heap.size w w' := by
 have HR0 := Aside0.mk hr0
 have HC0 := Aside0.mk hc0
 clear hr0 hc0
 have HR1 := Aside0.mk hr1
 have HC1 := Aside0.mk hc1
 clear hr1 hc1
 have HB := Aside0.mk (Below.refl w.heap.size w)
 have H := h
 unfold q0f.f at H
 clear h
 have H' := Aside0.mk H
 clear H
 go_enter Tryz.func99,Tryz.ntmps99
 go_wp2
 go_loopg [5,6,7] k (fun kq v5 v6 v7 w' => ∃ (x5_1 : List Int) (x6_1 : Int) (x7_1 : Int),v6 = .int .u64 x6_1 ∧ v7 = .int .i64 x7_1 ∧ Aside0 (q0f.l0 kq l0 l1 x5_1 x6_1 x7_1 = some r) ∧ Aside0 (kq ≤ k) ∧ Aside0 (Kd.R (Kd.int .u32) 88 w' w.heap.size (fun _ => True) v5 x5_1) ∧ Aside0 (Below w.heap.size w w'))
 case atStart => exact ⟨(([] : List Int)),(0),(0),(by rfl),(by rfl),H',⟨Nat.le_refl _⟩,⟨by exact Kd.R_nil _ _ _ _ _⟩,⟨hb0 HB⟩⟩
 case round =>
  clear H'
  obtain ⟨x5_1,x6_1,x7_1,rfl,rfl,HA,HK1,HO_5,HB⟩ := hrel
  cases gk with
  | zero => exact absurd HA.out (by simp [q0f.l0])
  | succ k1 =>
   have H := HA.out
   clear HA
   simp only [q0f.l0] at H
   have HC3 := Aside0.mk H
   clear H
   go_upto_region 4 with (fail)
   go_cut [21] (fun v21 wc => ∃ (kq : Nat) (x21_2 : Bool),v21 = .bool x21_2 ∧ Aside0 (q0f.j1 kq l0 l1 x5_1 x6_1 x7_1 x21_2 = some r) ∧ Aside0 (kq ≤ k1) ∧ Aside0 (Kd.R (Kd.int .u32) 88 wc w.heap.size (fun _ => True) u5 x5_1) ∧ Aside0 (Below w.heap.size w wc))
   case first =>
    have H := HC3.out
    clear HC3
    by_cases c4 : x7_1 < (l0.length : Int)
    ·rw [if_pos c4] at H
     have c4b0 : decide (x7_1 < (l0.length : Int)) = true := decide_eq_true c4
     (skip)
     have H' := Aside0.mk H
     clear H
     go_wp2
     go_meet
     case rel => exact ⟨_,(true),(by rfl),H',⟨by have := HK1.out; omega⟩,⟨rm HO_5⟩,⟨hb0 HB⟩⟩
    ·rw [if_neg c4] at H
     have c4b0 : decide (x7_1 < (l0.length : Int)) = false := decide_eq_false c4
     (skip)
     by_cases c5 : x7_1 < (l1.length : Int)
     ·rw [if_pos c5] at H
      have c5b0 : decide (x7_1 < (l1.length : Int)) = true := decide_eq_true c5
      have H' := Aside0.mk H
      clear H
      go_wp2
      go_meet
      case rel => exact ⟨_,(true),(by rfl),H',⟨by have := HK1.out; omega⟩,⟨rm HO_5⟩,⟨hb0 HB⟩⟩
     ·rw [if_neg c5] at H
      have c5b0 : decide (x7_1 < (l1.length : Int)) = false := decide_eq_false c5
      have H' := Aside0.mk H
      clear H
      go_wp2
      go_meet
      case rel => exact ⟨_,(decide (x6_1 > 0)),(by rfl),H',⟨by have := HK1.out; omega⟩,⟨rm HO_5⟩,⟨hb0 HB⟩⟩
   case rest =>
    clear HC3
    obtain ⟨kq,x21_2,rfl,HA,HJ2,HO_5,HB⟩ := hcut
    cases kq with
    | zero => exact absurd HA.out (by simp [q0f.j1])
    | succ kj2 =>
     have H := HA.out
     clear HA
     simp only [q0f.j1] at H
     by_cases c6 : x21_2 = true
     ·subst c6
      have H1 : ((q0m.f l0 x7_1).bind fun t323 => ((q0m.f l1 x7_1).bind fun t324 => (if x5_1.length < 35184372088832 then (q0f.l0 kj2 l0 l1 (x5_1 ++ [(IntKind.u64.wrap (x6_1 + (IntKind.u64.wrap (t323 + t324)))) % 4294967296]) ((IntKind.u64.wrap (x6_1 + (IntKind.u64.wrap (t323 + t324)))) / 4294967296) (wrap64 (x7_1 + 1))) else (none)))) = some r := by rw [if_pos rfl] at H; exact H
      clear H
      have H := H1
      clear H1
      obtain ⟨t323,A70,H⟩ := bs H
      have A7 := Aside0.mk A70
      clear A70
      obtain ⟨t324,A80,H⟩ := bs H
      have A8 := Aside0.mk A80
      clear A80
      by_cases c9 : x5_1.length < 35184372088832
      ·rw [if_pos c9] at H
       have LMc9 := Aside0.mk c9
       obtain ⟨y325,hy325⟩ : ∃ y_ : List Int,y_ = (x5_1 ++ [(IntKind.u64.wrap (x6_1 + (IntKind.u64.wrap (t323 + t324)))) % 4294967296]) := ⟨_,rfl⟩
       rw [← hy325] at H
       have Ny325 := Aside0.mk hy325
       clear hy325
       have H' := Aside0.mk H
       clear H
       go_wp2_with (first | ((with_reducible refine q0b (f := 129) rfl ?_); refine q0u (some 27) rfl rfl Tryz.func129 (by kernel_rfl) rfl #[.slice A0 l0.length c0,.int .i64 x7_1] rfl (ml) ?_; (with_reducible refine (q0m.calls _ _ l0 x7_1 t323 _ ?side1 ?side2 A7.out).mono ?_); (case side1 => exact cb HR0 HB); (case side2 => exact HC0.out); rintro e w' ⟨rfl,⟨nd,rfl⟩⟩; refine ⟨_,rfl,?_⟩) | ((with_reducible refine q0b (f := 129) rfl ?_); refine q0u (some 30) rfl rfl Tryz.func129 (by kernel_rfl) rfl #[.slice A1 l1.length c1,.int .i64 x7_1] rfl (ml) ?_; (with_reducible refine (q0m.calls _ _ l1 x7_1 t324 _ ?side1 ?side2 A8.out).mono ?_); (case side1 => repeat (exact (Kd.C_below HR1.out (hb0 HB)))); (case side2 => exact HC1.out); rintro e w' ⟨rfl,⟨nd,rfl⟩⟩; refine ⟨_,rfl,?_⟩) | ((with_reducible refine q1u (b := .append) (xs := #[.tmp 33,.tmp 36]) rfl ?_); (try (refine qQw (by rfl) ?_; dsimp only)); at_builtin; refine Kd.R_append (Kd.int .u32) (w0 := w) w.heap.size rfl (.tmp 33) (.tmp 36) 43 88 (.int .u32 0) 4 rfl Tryz.underlying43 q3a rfl (by decide) (by omega) u5 x5_1 ((IntKind.u64.wrap (x6_1 + (IntKind.u64.wrap (t323 + t324)))) % 4294967296) [.int .u32 ((IntKind.u64.wrap (x6_1 + (IntKind.u64.wrap (t323 + t324)))) % 4294967296)] (fun _ => True) (fun _ => False) rfl rfl ?aP (fun _ hk => hk.elim) ?aF ?aO ?aB ?aS ?aL ?_; (case aP => exact rfl); (case aB => exact (hb0 HB)); (case aF => exact (fun _ _ => trivial)); (case aO => exact (rm HO_5)); (case aS => exact (q0e (hb0 HB))); (case aL => have := LMc9.out; omega); intro v326 w10 ho hb hg hat; rw [← Ny325.out] at ho; have n0_ := Aside0.mk (hb); have n1_ := Aside0.mk (ho); clear HB; clear HO_5; have HB := n0_; have HO327 := n1_; clear n0_ n1_; clear ho hb hg hat))
       go_roundg kj2
       case measure => have := HK1.out; have := HJ2.out; omega
       case rel => exact ⟨(y325),((IntKind.u64.wrap (x6_1 + (IntKind.u64.wrap (t323 + t324)))) / 4294967296),(wrap64 (x7_1 + 1)),(by rfl),(by rfl),H',⟨by have := HK1.out; have := HJ2.out; omega⟩,⟨rm HO327⟩,⟨hb0 HB⟩⟩
      ·rw [if_neg c9] at H
       cases H
     ·replace c6 := Bool.eq_false_iff.mpr c6
      subst c6
      have H1 : ((q0a.f kj2 x5_1).bind fun t328 => (some t328)) = some r := by rw [if_neg (show ¬ (false = true) by decide)] at H; exact H
      clear H
      have H := H1
      clear H1
      obtain ⟨t328,A110,H⟩ := bs H
      have A11 := Aside0.mk A110
      clear A110
      obtain rfl := Option.some.inj H
      obtain ⟨Ao12,co12,eo12⟩ := Kd.R_slice HO_5.out
      subst eo12
      go_wp2_with (((with_reducible refine q0b (f := 63) rfl ?_); refine q0u (some 41) rfl rfl Tryz.func63 (by kernel_rfl) rfl #[.slice Ao12 x5_1.length co12] rfl (ml) ?_; (with_reducible refine (q0a.calls kj2 _ _ x5_1 t328 _ ?side1 ?side2 A11.out).mono ?_); (case side1 => exact cr HO_5); (case side2 => exact (Kd.R_reads' HO_5.out).2.1); rintro e w13 ⟨v329,rfl,ho0,hb⟩; refine ⟨_,rfl,?_⟩; have HO330 := Aside0.mk (Kd.R_lower (Kd.R_new' ho0 (Kd.R_lt (rm HO_5))) (q0e (hb0 HB))); replace HO_5 := Aside0.mk (Kd.R_elder' (rm HO_5) (Kd.R_base ho0) hb); replace HB := Aside0.mk (q0h (hb0 HB) hb)))
      go_ret
      exact ⟨_,by rfl,by (with_reducible repeat (apply Kd.R_drew)); exact Kd.R_mono HO330.out (fun _ hk => trivial),hb0 HB⟩
end Go.Proofs.YtjkcmnedolfkjaaGreat.PL
end
