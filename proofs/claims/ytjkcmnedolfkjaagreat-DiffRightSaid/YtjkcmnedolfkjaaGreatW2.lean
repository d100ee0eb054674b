/- Part 2 of the proof. -/
import Derived.Below
import Derived.Deep.Draws
import Derived.Deep.AppendLies
import Derived.Maps.AppendAt
import Derived.OwnWalk
import Derived.Laws.BytesArg
import Derived.Laws.MakeOwn
import Derived.Laws.OwnMore
import Derived.Deep.OwnRows
import Derived.Tactics
import Derived.Lib.ConvBytes
import Derived.Laws.Slices
import Derived.WalkKit
import Derived.KernelRfl
import Derived.RowKit3
import Derived.Deep.LoopGhost
import Derived.Deep.QuietTactic
import Derived.BigQuiet
import Derived.WideLaws
import Derived.Deep.DeepCutAuto
import Derived.Deep.CutBlock
import Derived.Deep.RegionHeld3
import Derived.Laws.Rows
import Derived.Lib.AppendStr
import Derived.ArgAppend
import Derived.Laws.IdiomCopy
import Derived.RowKit
import Derived.OrdersHeld
import Derived.Laws.BitsLemmas
import Derived.Test.YtjkcmnedolfkjaaGreatProg
import Derived.Laws.StructEq
import Derived.Test.YtjkcmnedolfkjaaGreatW1
set_option linter.unusedVariables false
set_option linter.unusedSimpArgs false
set_option maxHeartbeats 8000000
set_option maxRecDepth 100000
section
namespace Go.Proofs.YtjkcmnedolfkjaaGreat.PL
open Go.Proofs.YtjkcmnedolfkjaaGreat.Short
open Go.RowKit Go.Proofs.YtjkcmnedolfkjaaGreatW.PrintWords Go.Proofs.YtjkcmnedolfkjaaGreatW.PrintLast Go.Proofs.YtjkcmnedolfkjaaGreatW.PrintMore
attribute [local go_sem] qOo qOa qUw qVg qJg qKn qNn qO
set_option linter.unusedVariables false
set_option linter.unusedSimpArgs false
def q0l.l0 : Nat → List Int → List Int → List Int → Int → Int → Option (List Int)
 | 0,_,_,_,_,_ => none
 | k + 1,x0,x1,x5,x6,x7 => if x7 < (x0.length : Int) then ((q0m.f x0 x7).bind fun t334 => ((q0m.f x1 x7).bind fun t335 => (if t334 < (IntKind.u64.wrap (t335 + x6)) then (if x5.length < 35184372088832 then (q0l.l0 k x0 x1 (x5 ++ [(IntKind.u64.wrap ((IntKind.u64.wrap (t334 + 4294967296)) - (IntKind.u64.wrap (t335 + x6)))) % 4294967296]) 1 (wrap64 (x7 + 1))) else (none)) else (if x5.length < 35184372088832 then (q0l.l0 k x0 x1 (x5 ++ [(IntKind.u64.wrap (t334 - (IntKind.u64.wrap (t335 + x6)))) % 4294967296]) 0 (wrap64 (x7 + 1))) else (none))))) else ((q0a.f k x5).bind fun t331 => (some t331))
def q0l.f (k : Nat) (l0 : List Int) (l1 : List Int) : Option (List Int) := q0l.l0 k l0 l1 ([] : List Int) 0 0
theorem q0l.calls (k : Nat) (A0 : Option Addr) (c0 : Nat) (l0 : List Int) (A1 : Option Addr) (c1 : Nat) (l1 : List Int) (r : List Int) (w : World) (hr0 : Kd.C (Kd.int .u32) w A0 l0.length l0) (hc0 : l0.length ≤ c0) (hr1 : Kd.C (Kd.int .u32) w A1 l1.length l1) (hc1 : l1.length ≤ c1) (h : q0l.f k l0 l1 = some r) :
  Calls Tryz.prog 101 #[.slice A0 l0.length c0,.slice A1 l1.length c1] w fun e w' => ∃ v0_ : Value,e = .returned (v0_) ∧ Kd.R (Kd.int .u32) 88 w' w.heap.size (fun _ => True) v0_ r ∧ Below w.heap.size w w' := by
 have HR0 := Aside0.mk hr0
 have HC0 := Aside0.mk hc0
 clear hr0 hc0
 have HR1 := Aside0.mk hr1
 have HC1 := Aside0.mk hc1
 clear hr1 hc1
 have HB := Aside0.mk (Below.refl w.heap.size w)
 have H := h
 unfold q0l.f at H
 clear h
 have H' := Aside0.mk H
 clear H
 go_enter Tryz.func101,Tryz.ntmps101
 go_wp2
 go_loopg [5,6,7] k (fun kq v5 v6 v7 w' => ∃ (x5_1 : List Int) (x6_1 : Int) (x7_1 : Int),v6 = .int .u64 x6_1 ∧ v7 = .int .i64 x7_1 ∧ Aside0 (q0l.l0 kq l0 l1 x5_1 x6_1 x7_1 = some r) ∧ Aside0 (kq ≤ k) ∧ Aside0 (Kd.R (Kd.int .u32) 88 w' w.heap.size (fun _ => True) v5 x5_1) ∧ Aside0 (Below w.heap.size w w'))
 case atStart => exact ⟨(([] : List Int)),(0),(0),(by rfl),(by rfl),H',⟨Nat.le_refl _⟩,⟨by exact Kd.R_nil _ _ _ _ _⟩,⟨hb0 HB⟩⟩
 case round =>
  clear H'
  obtain ⟨x5_1,x6_1,x7_1,rfl,rfl,HA,HK1,HO_5,HB⟩ := hrel
  cases gk with
  | zero => exact absurd HA.out (by simp [q0l.l0])
  | succ k1 =>
   have H := HA.out
   clear HA
   simp only [q0l.l0] at H
   by_cases c3 : x7_1 < (l0.length : Int)
   ·rw [if_pos c3] at H
    have c3b0 : decide (x7_1 < (l0.length : Int)) = true := decide_eq_true c3
    obtain ⟨t334,A40,H⟩ := bs H
    have A4 := Aside0.mk A40
    clear A40
    obtain ⟨t335,A50,H⟩ := bs H
    have A5 := Aside0.mk A50
    clear A50
    by_cases c6 : t334 < (IntKind.u64.wrap (t335 + x6_1))
    ·rw [if_pos c6] at H
     have c6b0 : decide (t334 < (IntKind.u64.wrap (t335 + x6_1))) = true := decide_eq_true c6
     by_cases c7 : x5_1.length < 35184372088832
     ·rw [if_pos c7] at H
      have LMc7 := Aside0.mk c7
      obtain ⟨y336,hy336⟩ : ∃ y_ : List Int,y_ = (x5_1 ++ [(IntKind.u64.wrap ((IntKind.u64.wrap (t334 + 4294967296)) - (IntKind.u64.wrap (t335 + x6_1)))) % 4294967296]) := ⟨_,rfl⟩
      rw [← hy336] at H
      have Ny336 := Aside0.mk hy336
      clear hy336
      have H' := Aside0.mk H
      clear H
      go_wp2_with (first | ((with_reducible refine q0b (f := 129) rfl ?_); refine q0u (some 18) rfl rfl Tryz.func129 (by kernel_rfl) rfl #[.slice A0 l0.length c0,.int .i64 x7_1] rfl (ml) ?_; (with_reducible refine (q0m.calls _ _ l0 x7_1 t334 _ ?side1 ?side2 A4.out).mono ?_); (case side1 => exact cb HR0 HB); (case side2 => exact HC0.out); rintro e w' ⟨rfl,⟨nd,rfl⟩⟩; refine ⟨_,rfl,?_⟩) | ((with_reducible refine q0b (f := 129) rfl ?_); refine q0u (some 21) rfl rfl Tryz.func129 (by kernel_rfl) rfl #[.slice A1 l1.length c1,.int .i64 x7_1] rfl (ml) ?_; (with_reducible refine (q0m.calls _ _ l1 x7_1 t335 _ ?side1 ?side2 A5.out).mono ?_); (case side1 => repeat (exact (Kd.C_below HR1.out (hb0 HB)))); (case side2 => exact HC1.out); rintro e w' ⟨rfl,⟨nd,rfl⟩⟩; refine ⟨_,rfl,?_⟩) | ((with_reducible refine q1u (b := .append) (xs := #[.tmp 29,.tmp 34]) rfl ?_); at_builtin; refine Kd.R_append (Kd.int .u32) (w0 := w) w.heap.size rfl (.tmp 29) (.tmp 34) 43 88 (.int .u32 0) 4 rfl Tryz.underlying43 q3a rfl (by decide) (by omega) u5 x5_1 ((IntKind.u64.wrap ((IntKind.u64.wrap (t334 + 4294967296)) - (IntKind.u64.wrap (t335 + x6_1)))) % 4294967296) [.int .u32 ((IntKind.u64.wrap ((IntKind.u64.wrap (t334 + 4294967296)) - (IntKind.u64.wrap (t335 + x6_1)))) % 4294967296)] (fun _ => True) (fun _ => False) rfl rfl ?aP (fun _ hk => hk.elim) ?aF ?aO ?aB ?aS ?aL ?_; (case aP => exact rfl); (case aB => exact (hb0 HB)); (case aF => exact (fun _ _ => trivial)); (case aO => exact (rm HO_5)); (case aS => exact (q0e (hb0 HB))); (case aL => have := LMc7.out; omega); intro v337 w8 ho hb hg hat; rw [← Ny336.out] at ho; have n0_ := Aside0.mk (hb); have n1_ := Aside0.mk (ho); clear HB; clear HO_5; have HB := n0_; have HO338 := n1_; clear n0_ n1_; clear ho hb hg hat))
      go_roundg k1
      case measure => have := HK1.out; omega
      case rel => exact ⟨(y336),(1),(wrap64 (x7_1 + 1)),(by rfl),(by rfl),H',⟨by have := HK1.out; omega⟩,⟨rm HO338⟩,⟨hb0 HB⟩⟩
     ·rw [if_neg c7] at H
      cases H
    ·rw [if_neg c6] at H
     have c6b0 : decide (t334 < (IntKind.u64.wrap (t335 + x6_1))) = false := decide_eq_false c6
     by_cases c9 : x5_1.length < 35184372088832
     ·rw [if_pos c9] at H
      have LMc9 := Aside0.mk c9
      obtain ⟨y339,hy339⟩ : ∃ y_ : List Int,y_ = (x5_1 ++ [(IntKind.u64.wrap (t334 - (IntKind.u64.wrap (t335 + x6_1)))) % 4294967296]) := ⟨_,rfl⟩
      rw [← hy339] at H
      have Ny339 := Aside0.mk hy339
      clear hy339
      have H' := Aside0.mk H
      clear H
      go_wp2_with (first | ((with_reducible refine q0b (f := 129) rfl ?_); refine q0u (some 18) rfl rfl Tryz.func129 (by kernel_rfl) rfl #[.slice A0 l0.length c0,.int .i64 x7_1] rfl (ml) ?_; (with_reducible refine (q0m.calls _ _ l0 x7_1 t334 _ ?side1 ?side2 A4.out).mono ?_); (case side1 => exact cb HR0 HB); (case side2 => exact HC0.out); rintro e w' ⟨rfl,⟨nd,rfl⟩⟩; refine ⟨_,rfl,?_⟩) | ((with_reducible refine q0b (f := 129) rfl ?_); refine q0u (some 21) rfl rfl Tryz.func129 (by kernel_rfl) rfl #[.slice A1 l1.length c1,.int .i64 x7_1] rfl (ml) ?_; (with_reducible refine (q0m.calls _ _ l1 x7_1 t335 _ ?side1 ?side2 A5.out).mono ?_); (case side1 => repeat (exact (Kd.C_below HR1.out (hb0 HB)))); (case side2 => exact HC1.out); rintro e w' ⟨rfl,⟨nd,rfl⟩⟩; refine ⟨_,rfl,?_⟩) | ((with_reducible refine q1u (b := .append) (xs := #[.tmp 29,.tmp 34]) rfl ?_); at_builtin; refine Kd.R_append (Kd.int .u32) (w0 := w) w.heap.size rfl (.tmp 29) (.tmp 34) 43 88 (.int .u32 0) 4 rfl Tryz.underlying43 q3a rfl (by decide) (by omega) u5 x5_1 ((IntKind.u64.wrap (t334 - (IntKind.u64.wrap (t335 + x6_1)))) % 4294967296) [.int .u32 ((IntKind.u64.wrap (t334 - (IntKind.u64.wrap (t335 + x6_1)))) % 4294967296)] (fun _ => True) (fun _ => False) rfl rfl ?aP (fun _ hk => hk.elim) ?aF ?aO ?aB ?aS ?aL ?_; (case aP => exact rfl); (case aB => exact (hb0 HB)); (case aF => exact (fun _ _ => trivial)); (case aO => exact (rm HO_5)); (case aS => exact (q0e (hb0 HB))); (case aL => have := LMc9.out; omega); intro v340 w10 ho hb hg hat; rw [← Ny339.out] at ho; have n0_ := Aside0.mk (hb); have n1_ := Aside0.mk (ho); clear HB; clear HO_5; have HB := n0_; have HO341 := n1_; clear n0_ n1_; clear ho hb hg hat))
      go_roundg k1
      case measure => have := HK1.out; omega
      case rel => exact ⟨(y339),(0),(wrap64 (x7_1 + 1)),(by rfl),(by rfl),H',⟨by have := HK1.out; omega⟩,⟨rm HO341⟩,⟨hb0 HB⟩⟩
     ·rw [if_neg c9] at H
      cases H
   ·rw [if_neg c3] at H
    have c3b0 : decide (x7_1 < (l0.length : Int)) = false := decide_eq_false c3
    obtain ⟨t331,A110,H⟩ := bs H
    have A11 := Aside0.mk A110
    clear A110
    obtain rfl := Option.some.inj H
    obtain ⟨Ao12,co12,eo12⟩ := Kd.R_slice HO_5.out
    subst eo12
    go_wp2_with (((with_reducible refine q0b (f := 63) rfl ?_); refine q0u (some 37) rfl rfl Tryz.func63 (by kernel_rfl) rfl #[.slice Ao12 x5_1.length co12] rfl (ml) ?_; (with_reducible refine (q0a.calls k1 _ _ x5_1 t331 _ ?side1 ?side2 A11.out).mono ?_); (case side1 => exact cr HO_5); (case side2 => exact (Kd.R_reads' HO_5.out).2.1); rintro e w13 ⟨v332,rfl,ho0,hb⟩; refine ⟨_,rfl,?_⟩; have HO333 := Aside0.mk (Kd.R_lower (Kd.R_new' ho0 (Kd.R_lt (rm HO_5))) (q0e (hb0 HB))); replace HO_5 := Aside0.mk (Kd.R_elder' (rm HO_5) (Kd.R_base ho0) hb); replace HB := Aside0.mk (q0h (hb0 HB) hb)))
    go_ret
    exact ⟨_,by rfl,by (with_reducible repeat (apply Kd.R_drew)); exact Kd.R_mono HO333.out (fun _ hk => trivial),hb0 HB⟩
def q1g.f (k : Nat) (a0 : Int) : Option (List Int) := (q0a.f k (([(a0) % 4294967296,(a0 / 4294967296) % 4294967296] : List Int))).bind fun t345 => (some t345)
theorem q1g.calls (k : Nat) (a0 : Int) (r : List Int) (w : World) (h : q1g.f k a0 = some r) :
  Calls Tryz.prog 110 #[.int .u64 a0] w fun e w' => ∃ v0_ : Value,e = .returned (v0_) ∧ Kd.R (Kd.int .u32) 88 w' w.heap.size (fun _ => True) v0_ r ∧ Below w.heap.size w w' := by
 have HB := Aside0.mk (Below.refl w.heap.size w)
 have H := h
 unfold q1g.f at H
 clear h
 obtain ⟨y342,hy342⟩ : ∃ y_ : List Int,y_ = (([(a0) % 4294967296,(a0 / 4294967296) % 4294967296] : List Int)) := ⟨_,rfl⟩
 rw [← hy342] at H
 have Ny342 := Aside0.mk hy342
 clear hy342
 obtain ⟨t345,A20,H⟩ := bs H
 have A2 := Aside0.mk A20
 clear A20
 obtain rfl := Option.some.inj H
 go_enter Tryz.func110,Tryz.ntmps110
 go_wp2_with (first | ((with_reducible refine q3b (N := 8) rfl ?_); refine Kd.R_lit (Kd.int .u32) _ 88 ?hg (N := 8) ?hd (xs := ([(a0) % 4294967296,(a0 / 4294967296) % 4294967296] : List Int)) (inner := [.int .u32 ((a0) % 4294967296),.int .u32 ((a0 / 4294967296) % 4294967296)]) (ok := fun _ => True) (okp := fun _ => True) ?hr ?hp (fun _ hk => hk) trivial (Below.refl _ _) (Nat.le_refl _) (by simp) ?_; (case hd => rfl); (case hg => rfl); (case hr => (go_simp; done)); (case hp => exact (Reps.one (show Kd.M (Kd.int .u32) _ _ _ ((a0) % 4294967296) [.int .u32 ((a0) % 4294967296)] from rfl) (Reps.one (show Kd.M (Kd.int .u32) _ _ _ ((a0 / 4294967296) % 4294967296) [.int .u32 ((a0 / 4294967296) % 4294967296)] from rfl) (Reps.none _ _)))); intro v343 w3 ho4 hb hg_ hnew_; clear hg_ hnew_; (rw [← Ny342.out] at ho4); have HO344 := Aside0.mk (Kd.R_lower ho4 (q0e (hb0 HB))); replace HB := Aside0.mk (q0h (hb0 HB) hb); clear hb ho4; obtain ⟨Ao5,co5,eo5⟩ := Kd.R_slice HO344.out; subst eo5) | ((with_reducible refine q0b (f := 63) rfl ?_); refine q0u (some 9) rfl rfl Tryz.func63 (by kernel_rfl) rfl #[.slice Ao5 y342.length co5] rfl (ml) ?_; (with_reducible refine (q0a.calls k _ _ y342 t345 _ ?side1 ?side2 A2.out).mono ?_); (case side1 => exact cr HO344); (case side2 => exact (Kd.R_reads' HO344.out).2.1); rintro e w6 ⟨v346,rfl,ho0,hb⟩; refine ⟨_,rfl,?_⟩; have HO347 := Aside0.mk (Kd.R_lower (Kd.R_new' ho0 (Kd.R_lt (rm HO344))) (q0e (hb0 HB))); replace HO344 := Aside0.mk (Kd.R_elder' (rm HO344) (Kd.R_base ho0) hb); replace HB := Aside0.mk (q0h (hb0 HB) hb)))
 go_ret
 exact ⟨_,by rfl,by (with_reducible repeat (apply Kd.R_drew)); exact Kd.R_mono HO347.out (fun _ hk => trivial),hb0 HB⟩
def q0q.l0 : Nat → List Int → Int → List Int → Int → Int → Option (List Int)
 | 0,_,_,_,_,_ => none
 | k + 1,x0,x1,x5,x6,x7 => if x7 < (x0.length : Int) then (if 0 ≤ x7 then (if 0 ≤ (IntKind.u64.wrap (Int.tmod x1 32)) then (if x5.length < 35184372088832 then (q0q.l0 k x0 x1 (x5 ++ [(Go.bits .or .u64 x6 (shl .u64 (IntKind.u64.wrap (rd x0 x7)) (IntKind.u64.wrap (Int.tmod x1 32)))) % 4294967296]) ((Go.bits .or .u64 x6 (shl .u64 (IntKind.u64.wrap (rd x0 x7)) (IntKind.u64.wrap (Int.tmod x1 32)))) / 4294967296) (wrap64 (x7 + 1))) else (none)) else (none)) else (none)) else (if x5.length < 35184372088832 then ((q0a.f k (x5 ++ [(x6) % 4294967296])).bind fun t360 => (some t360)) else (none))
def q0q.f (k : Nat) (l0 : List Int) (a1 : Int) : Option (List Int) := if 0 ≤ (wrap64 (Int.tdiv a1 32)) then (if (wrap64 (Int.tdiv a1 32)) ≤ (wrap64 ((wrap64 ((wrap64 (Int.tdiv a1 32)) + (l0.length : Int))) + 1)) then (if (wrap64 ((wrap64 ((wrap64 (Int.tdiv a1 32)) + (l0.length : Int))) + 1) : Int).toNat ≤ 70368744177664 then (q0q.l0 k l0 a1 (List.replicate (wrap64 (Int.tdiv a1 32) : Int).toNat 0) 0 0) else (none)) else (none)) else (none)
theorem q0q.calls (k : Nat) (A0 : Option Addr) (c0 : Nat) (l0 : List Int) (a1 : Int) (r : List Int) (w : World) (hr0 : Kd.C (Kd.int .u32) w A0 l0.length l0) (hc0 : l0.length ≤ c0) (h : q0q.f k l0 a1 = some r) :
  Calls Tryz.prog 102 #[.slice A0 l0.length c0,.int .i64 a1] w fun e w' => ∃ v0_ : Value,e = .returned (v0_) ∧ Kd.R (Kd.int .u32) 88 w' w.heap.size (fun _ => True) v0_ r ∧ Below w.heap.size w w' := by
 have HR0 := Aside0.mk hr0
 have HC0 := Aside0.mk hc0
 clear hr0 hc0
 have HB := Aside0.mk (Below.refl w.heap.size w)
 have H := h
 unfold q0q.f at H
 clear h
 obtain ⟨ji3,hji3⟩ : ∃ j_ : Int,(wrap64 (Int.tdiv a1 32)) = j_ := ⟨_,rfl⟩
 rw [hji3] at H
 have hji3w : (IntKind.i64.wrap (Int.tdiv a1 32)) = ji3 := (q4i _).trans hji3
 by_cases c4 : 0 ≤ (ji3)
 ·rw [if_pos c4] at H
  have c4b0 := eq_true c4
  have c4b1 : decide (0 ≤ (ji3)) = true := decide_eq_true c4
  by_cases c5 : (ji3) ≤ (wrap64 ((wrap64 ((ji3) + (l0.length : Int))) + 1))
  ·rw [if_pos c5] at H
   have c5b0 := eq_true c5
   have c5b1 : decide ((ji3) ≤ (wrap64 ((wrap64 ((ji3) + (l0.length : Int))) + 1))) = true := decide_eq_true c5
   by_cases c6 : (wrap64 ((wrap64 ((ji3) + (l0.length : Int))) + 1) : Int).toNat ≤ 70368744177664
   ·rw [if_pos c6] at H
    have c6b0 := eq_true c6
    have c6b1 : decide ((wrap64 ((wrap64 ((ji3) + (l0.length : Int))) + 1) : Int).toNat ≤ 70368744177664) = true := decide_eq_true c6
    obtain ⟨y350,hy350⟩ : ∃ y_ : List Int,y_ = (List.replicate (ji3 : Int).toNat 0) := ⟨_,rfl⟩
    rw [← hy350] at H
    have Ny350 := Aside0.mk hy350
    clear hy350
    have H' := Aside0.mk H
    clear H
    go_enter Tryz.func102,Tryz.ntmps102
    go_wp2_with (((with_reducible refine q3b (N := 16) rfl ?_); refine Kd.R_make_cap (Kd.int .u32) _ 88 rfl (N := 16) rfl 43 _ _ rfl ji3 (wrap64 ((wrap64 ((ji3) + (l0.length : Int))) + 1)) rfl rfl Tryz.underlying43 (.int .u32 0) 4 q3a rfl (by decide) (by omega) 0 (ok := fun _ => True) (okp := fun _ => True) rfl (fun _ hk => hk) trivial (od) (od) (Nat.le_trans (Nat.mul_le_mul_right _ (od : (wrap64 ((wrap64 ((ji3) + (l0.length : Int))) + 1) : Int).toNat ≤ 70368744177664)) (by omega)) (Below.refl _ _) (Nat.le_refl _) ?_; intro v351 w7 ho8 hb hg_ hnew_; clear hg_ hnew_; (rw [← Ny350.out] at ho8); have HO352 := Aside0.mk (Kd.R_lower ho8 (q0e (hb0 HB))); replace HB := Aside0.mk (q0h (hb0 HB) hb); clear hb ho8))
    go_loopg [5,6,7] k (fun kq v5 v6 v7 w' => ∃ (x5_1 : List Int) (x6_1 : Int) (x7_1 : Int),v6 = .int .u64 x6_1 ∧ v7 = .int .i64 x7_1 ∧ Aside0 (q0q.l0 kq l0 a1 x5_1 x6_1 x7_1 = some r) ∧ Aside0 (kq ≤ k) ∧ Aside0 (Kd.R (Kd.int .u32) 88 w' w.heap.size (fun _ => True) v5 x5_1) ∧ Aside0 (Below w.heap.size w w'))
    case atStart => exact ⟨(y350),(0),(0),(by rfl),(by rfl),H',⟨Nat.le_refl _⟩,⟨rm HO352⟩,⟨hb0 HB⟩⟩
    case round =>
     clear H'
     obtain ⟨x5_1,x6_1,x7_1,rfl,rfl,HA,HK1,HO_5,HB⟩ := hrel
     cases gk with
     | zero => exact absurd HA.out (by simp [q0q.l0])
     | succ k1 =>
      have H := HA.out
      clear HA
      simp only [q0q.l0] at H
      by_cases c9 : x7_1 < (l0.length : Int)
      ·rw [if_pos c9] at H
       have c9b0 : decide (x7_1 < (l0.length : Int)) = true := decide_eq_true c9
       by_cases c10 : 0 ≤ x7_1
       ·rw [if_pos c10] at H
        have c10b0 : decide (0 ≤ x7_1) = true := decide_eq_true c10
        obtain ⟨ji11,hji11⟩ : ∃ j_ : Int,(IntKind.u64.wrap (Int.tmod a1 32)) = j_ := ⟨_,rfl⟩
        rw [hji11] at H
        by_cases c12 : 0 ≤ (ji11)
        ·rw [if_pos c12] at H
         have c12b0 := eq_true c12
         have c12b1 : decide (0 ≤ (ji11)) = true := decide_eq_true c12
         obtain ⟨ji13,hji13⟩ : ∃ j_ : Int,(shl .u64 (IntKind.u64.wrap (rd l0 x7_1)) (ji11)) = j_ := ⟨_,rfl⟩
         rw [hji13] at H
         have hji13_ : (IntKind.u64.wrap ((IntKind.u64.wrap (rd l0 x7_1)) * 2 ^ min (ji11).toNat 64)) = ji13 := hji13
         have hji13z : (ji11) ≤ 64 → (IntKind.u64.wrap ((IntKind.u64.wrap (rd l0 x7_1)) * 2 ^ (ji11).toNat)) = ji13 := qDj hji13
         by_cases c14 : x5_1.length < 35184372088832
         ·rw [if_pos c14] at H
          have LMc14 := Aside0.mk c14
          obtain ⟨y354,hy354⟩ : ∃ y_ : List Int,y_ = (x5_1 ++ [(Go.bits .or .u64 x6_1 (ji13)) % 4294967296]) := ⟨_,rfl⟩
          rw [← hy354] at H
          have Ny354 := Aside0.mk hy354
          clear hy354
          have H' := Aside0.mk H
          clear H
          have p353 : 0 ≤ (x7_1 : Int) := od
          have q353 : x7_1 < (l0.length : Int) := od
          obtain ⟨ad353,e353,hx353_0⟩ := Kd.at_int HR0.out x7_1 p353 q353
          cases e353
          replace hx353_0 := (HB.out.cell (World.block_lt_of_cell? w _ hx353_0)).trans hx353_0
          replace p353 := eq_true p353
          replace q353 := eq_true q353
          go_wp2_with (((with_reducible refine q1u (b := .append) (xs := #[.tmp 34,.tmp 37]) rfl ?_); at_builtin; refine Kd.R_append (Kd.int .u32) (w0 := w) w.heap.size rfl (.tmp 34) (.tmp 37) 43 88 (.int .u32 0) 4 rfl Tryz.underlying43 q3a rfl (by decide) (by omega) u5 x5_1 ((Go.bits .or .u64 x6_1 (ji13)) % 4294967296) [.int .u32 ((Go.bits .or .u64 x6_1 (ji13)) % 4294967296)] (fun _ => True) (fun _ => False) rfl rfl ?aP (fun _ hk => hk.elim) ?aF ?aO ?aB ?aS ?aL ?_; (case aP => exact rfl); (case aB => exact (hb0 HB)); (case aF => exact (fun _ _ => trivial)); (case aO => exact (rm HO_5)); (case aS => exact (q0e (hb0 HB))); (case aL => have := LMc14.out; omega); intro v355 w15 ho hb hg hat; rw [← Ny354.out] at ho; have n0_ := Aside0.mk (hb); have n1_ := Aside0.mk (ho); clear HB; clear HO_5; have HB := n0_; have HO356 := n1_; clear n0_ n1_; clear ho hb hg hat))
          go_roundg k1
          case measure => have := HK1.out; omega
          case rel => exact ⟨(y354),((Go.bits .or .u64 x6_1 (ji13)) / 4294967296),(wrap64 (x7_1 + 1)),(by rfl),(by rfl),H',⟨by have := HK1.out; omega⟩,⟨rm HO356⟩,⟨hb0 HB⟩⟩
         ·rw [if_neg c14] at H
          cases H
        ·rw [if_neg c12] at H
         cases H
       ·rw [if_neg c10] at H
        cases H
      ·rw [if_neg c9] at H
       have c9b0 : decide (x7_1 < (l0.length : Int)) = false := decide_eq_false c9
       by_cases c16 : x5_1.length < 35184372088832
       ·rw [if_pos c16] at H
        have LMc16 := Aside0.mk c16
        obtain ⟨y357,hy357⟩ : ∃ y_ : List Int,y_ = (x5_1 ++ [(x6_1) % 4294967296]) := ⟨_,rfl⟩
        rw [← hy357] at H
        have Ny357 := Aside0.mk hy357
        clear hy357
        obtain ⟨t360,A170,H⟩ := bs H
        have A17 := Aside0.mk A170
        clear A170
        obtain rfl := Option.some.inj H
        go_wp2_with (first | ((with_reducible refine q1u (b := .append) (xs := #[.tmp 41,.tmp 44]) rfl ?_); at_builtin; refine Kd.R_append (Kd.int .u32) (w0 := w) w.heap.size rfl (.tmp 41) (.tmp 44) 43 88 (.int .u32 0) 4 rfl Tryz.underlying43 q3a rfl (by decide) (by omega) u5 x5_1 ((x6_1) % 4294967296) [.int .u32 ((x6_1) % 4294967296)] (fun _ => True) (fun _ => False) rfl rfl ?aP (fun _ hk => hk.elim) ?aF ?aO ?aB ?aS ?aL ?_; (case aP => exact rfl); (case aB => exact (hb0 HB)); (case aF => exact (fun _ _ => trivial)); (case aO => exact (rm HO_5)); (case aS => exact (q0e (hb0 HB))); (case aL => have := LMc16.out; omega); intro v358 w18 ho hb hg hat; rw [← Ny357.out] at ho; have n0_ := Aside0.mk (hb); have n1_ := Aside0.mk (ho); clear HB; clear HO_5; have HB := n0_; have HO359 := n1_; clear n0_ n1_; clear ho hb hg hat; obtain ⟨Ao19,co19,eo19⟩ := Kd.R_slice HO359.out; subst eo19) | ((with_reducible refine q0b (f := 63) rfl ?_); refine q0u (some 46) rfl rfl Tryz.func63 (by kernel_rfl) rfl #[.slice Ao19 y357.length co19] rfl (ml) ?_; (with_reducible refine (q0a.calls k1 _ _ y357 t360 _ ?side1 ?side2 A17.out).mono ?_); (case side1 => exact cr HO359); (case side2 => exact (Kd.R_reads' HO359.out).2.1); rintro e w20 ⟨v361,rfl,ho0,hb⟩; refine ⟨_,rfl,?_⟩; have HO362 := Aside0.mk (Kd.R_lower (Kd.R_new' ho0 (Kd.R_lt (rm HO359))) (q0e (hb0 HB))); replace HO359 := Aside0.mk (Kd.R_elder' (rm HO359) (Kd.R_base ho0) hb); replace HB := Aside0.mk (q0h (hb0 HB) hb)))
        go_ret
        exact ⟨_,by rfl,by (with_reducible repeat (apply Kd.R_drew)); exact Kd.R_mono HO362.out (fun _ hk => trivial),hb0 HB⟩
       ·rw [if_neg c16] at H
        cases H
   ·rw [if_neg c6] at H
    cases H
  ·rw [if_neg c5] at H
   cases H
 ·rw [if_neg c4] at H
  cases H
def q0y.l0 : Nat → List Int → Int → List Int → Int → Int → Option (List Int)
 | 0,_,_,_,_,_ => none
 | k + 1,x0,x1,x5,x6,x7 => if x7 < (x0.length : Int) then (if 0 ≤ x7 then (if x5.length < 35184372088832 then (q0y.l0 k x0 x1 (x5 ++ [(IntKind.u64.wrap (x6 + (IntKind.u64.wrap ((IntKind.u64.wrap (rd x0 x7)) * (IntKind.u64.wrap (x1)))))) % 4294967296]) ((IntKind.u64.wrap (x6 + (IntKind.u64.wrap ((IntKind.u64.wrap (rd x0 x7)) * (IntKind.u64.wrap (x1)))))) / 4294967296) (wrap64 (x7 + 1))) else (none)) else (none)) else (if x5.length < 35184372088832 then ((q0a.f k (x5 ++ [(x6) % 4294967296])).bind fun t370 => (some t370)) else (none))
def q0y.f (k : Nat) (l0 : List Int) (a1 : Int) : Option (List Int) := q0y.l0 k l0 a1 ([] : List Int) 0 0
theorem q0y.calls (k : Nat) (A0 : Option Addr) (c0 : Nat) (l0 : List Int) (a1 : Int) (r : List Int) (w : World) (hr0 : Kd.C (Kd.int .u32) w A0 l0.length l0) (hc0 : l0.length ≤ c0) (h : q0y.f k l0 a1 = some r) :
  Calls Tryz.prog 103 #[.slice A0 l0.length c0,.int .u32 a1] w fun e w' => ∃ v0_ : Value,e = .returned (v0_) ∧ Kd.R (Kd.int .u32) 88 w' w.heap.size (fun _ => True) v0_ r ∧ Below w.heap.size w w' := by
 have HR0 := Aside0.mk hr0
 have HC0 := Aside0.mk hc0
 clear hr0 hc0
 have HB := Aside0.mk (Below.refl w.heap.size w)
 have H := h
 unfold q0y.f at H
 clear h
 have H' := Aside0.mk H
 clear H
 go_enter Tryz.func103,Tryz.ntmps103
 go_wp2
 go_loopg [5,6,7] k (fun kq v5 v6 v7 w' => ∃ (x5_1 : List Int) (x6_1 : Int) (x7_1 : Int),v6 = .int .u64 x6_1 ∧ v7 = .int .i64 x7_1 ∧ Aside0 (q0y.l0 kq l0 a1 x5_1 x6_1 x7_1 = some r) ∧ Aside0 (kq ≤ k) ∧ Aside0 (Kd.R (Kd.int .u32) 88 w' w.heap.size (fun _ => True) v5 x5_1) ∧ Aside0 (Below w.heap.size w w'))
 case atStart => exact ⟨(([] : List Int)),(0),(0),(by rfl),(by rfl),H',⟨Nat.le_refl _⟩,⟨by exact Kd.R_nil _ _ _ _ _⟩,⟨hb0 HB⟩⟩
 case round =>
  clear H'
  obtain ⟨x5_1,x6_1,x7_1,rfl,rfl,HA,HK1,HO_5,HB⟩ := hrel
  cases gk with
  | zero => exact absurd HA.out (by simp [q0y.l0])
  | succ k1 =>
   have H := HA.out
   clear HA
   simp only [q0y.l0] at H
   by_cases c3 : x7_1 < (l0.length : Int)
   ·rw [if_pos c3] at H
    have c3b0 : decide (x7_1 < (l0.length : Int)) = true := decide_eq_true c3
    by_cases c4 : 0 ≤ x7_1
    ·rw [if_pos c4] at H
     have c4b0 : decide (0 ≤ x7_1) = true := decide_eq_true c4
     by_cases c5 : x5_1.length < 35184372088832
     ·rw [if_pos c5] at H
      have LMc5 := Aside0.mk c5
      obtain ⟨y364,hy364⟩ : ∃ y_ : List Int,y_ = (x5_1 ++ [(IntKind.u64.wrap (x6_1 + (IntKind.u64.wrap ((IntKind.u64.wrap (rd l0 x7_1)) * (IntKind.u64.wrap (a1)))))) % 4294967296]) := ⟨_,rfl⟩
      rw [← hy364] at H
      have Ny364 := Aside0.mk hy364
      clear hy364
      have H' := Aside0.mk H
      clear H
      have p363 : 0 ≤ (x7_1 : Int) := od
      have q363 : x7_1 < (l0.length : Int) := od
      obtain ⟨ad363,e363,hx363_0⟩ := Kd.at_int HR0.out x7_1 p363 q363
      cases e363
      replace hx363_0 := (HB.out.cell (World.block_lt_of_cell? w _ hx363_0)).trans hx363_0
      replace p363 := eq_true p363
      replace q363 := eq_true q363
      go_wp2_with (((with_reducible refine q1u (b := .append) (xs := #[.tmp 24,.tmp 27]) rfl ?_); at_builtin; refine Kd.R_append (Kd.int .u32) (w0 := w) w.heap.size rfl (.tmp 24) (.tmp 27) 43 88 (.int .u32 0) 4 rfl Tryz.underlying43 q3a rfl (by decide) (by omega) u5 x5_1 ((IntKind.u64.wrap (x6_1 + (IntKind.u64.wrap ((IntKind.u64.wrap (rd l0 x7_1)) * (IntKind.u64.wrap (a1)))))) % 4294967296) [.int .u32 ((IntKind.u64.wrap (x6_1 + (IntKind.u64.wrap ((IntKind.u64.wrap (rd l0 x7_1)) * (IntKind.u64.wrap (a1)))))) % 4294967296)] (fun _ => True) (fun _ => False) rfl rfl ?aP (fun _ hk => hk.elim) ?aF ?aO ?aB ?aS ?aL ?_; (case aP => exact rfl); (case aB => exact (hb0 HB)); (case aF => exact (fun _ _ => trivial)); (case aO => exact (rm HO_5)); (case aS => exact (q0e (hb0 HB))); (case aL => have := LMc5.out; omega); intro v365 w6 ho hb hg hat; rw [← Ny364.out] at ho; have n0_ := Aside0.mk (hb); have n1_ := Aside0.mk (ho); clear HB; clear HO_5; have HB := n0_; have HO366 := n1_; clear n0_ n1_; clear ho hb hg hat))
      go_roundg k1
      case measure => have := HK1.out; omega
      case rel => exact ⟨(y364),((IntKind.u64.wrap (x6_1 + (IntKind.u64.wrap ((IntKind.u64.wrap (rd l0 x7_1)) * (IntKind.u64.wrap (a1)))))) / 4294967296),(wrap64 (x7_1 + 1)),(by rfl),(by rfl),H',⟨by have := HK1.out; omega⟩,⟨rm HO366⟩,⟨hb0 HB⟩⟩
     ·rw [if_neg c5] at H
      cases H
    ·rw [if_neg c4] at H
     cases H
   ·rw [if_neg c3] at H
    have c3b0 : decide (x7_1 < (l0.length : Int)) = false := decide_eq_false c3
    by_cases c7 : x5_1.length < 35184372088832
    ·rw [if_pos c7] at H
     have LMc7 := Aside0.mk c7
     obtain ⟨y367,hy367⟩ : ∃ y_ : List Int,y_ = (x5_1 ++ [(x6_1) % 4294967296]) := ⟨_,rfl⟩
     rw [← hy367] at H
     have Ny367 := Aside0.mk hy367
     clear hy367
     obtain ⟨t370,A80,H⟩ := bs H
     have A8 := Aside0.mk A80
     clear A80
     obtain rfl := Option.some.inj H
     go_wp2_with (first | ((with_reducible refine q1u (b := .append) (xs := #[.tmp 31,.tmp 34]) rfl ?_); at_builtin; refine Kd.R_append (Kd.int .u32) (w0 := w) w.heap.size rfl (.tmp 31) (.tmp 34) 43 88 (.int .u32 0) 4 rfl Tryz.underlying43 q3a rfl (by decide) (by omega) u5 x5_1 ((x6_1) % 4294967296) [.int .u32 ((x6_1) % 4294967296)] (fun _ => True) (fun _ => False) rfl rfl ?aP (fun _ hk => hk.elim) ?aF ?aO ?aB ?aS ?aL ?_; (case aP => exact rfl); (case aB => exact (hb0 HB)); (case aF => exact (fun _ _ => trivial)); (case aO => exact (rm HO_5)); (case aS => exact (q0e (hb0 HB))); (case aL => have := LMc7.out; omega); intro v368 w9 ho hb hg hat; rw [← Ny367.out] at ho; have n0_ := Aside0.mk (hb); have n1_ := Aside0.mk (ho); clear HB; clear HO_5; have HB := n0_; have HO369 := n1_; clear n0_ n1_; clear ho hb hg hat; obtain ⟨Ao10,co10,eo10⟩ := Kd.R_slice HO369.out; subst eo10) | ((with_reducible refine q0b (f := 63) rfl ?_); refine q0u (some 36) rfl rfl Tryz.func63 (by kernel_rfl) rfl #[.slice Ao10 y367.length co10] rfl (ml) ?_; (with_reducible refine (q0a.calls k1 _ _ y367 t370 _ ?side1 ?side2 A8.out).mono ?_); (case side1 => exact cr HO369); (case side2 => exact (Kd.R_reads' HO369.out).2.1); rintro e w11 ⟨v371,rfl,ho0,hb⟩; refine ⟨_,rfl,?_⟩; have HO372 := Aside0.mk (Kd.R_lower (Kd.R_new' ho0 (Kd.R_lt (rm HO369))) (q0e (hb0 HB))); replace HO369 := Aside0.mk (Kd.R_elder' (rm HO369) (Kd.R_base ho0) hb); replace HB := Aside0.mk (q0h (hb0 HB) hb)))
     go_ret
     exact ⟨_,by rfl,by (with_reducible repeat (apply Kd.R_drew)); exact Kd.R_mono HO372.out (fun _ hk => trivial),hb0 HB⟩
    ·rw [if_neg c7] at H
     cases H
def q0g.l0 : Nat → List Int → List Int → List Int → Int → Option (List Int)
 | 0,_,_,_,_ => none
 | k + 1,x0,x1,x5,x6 => if x6 < (x1.length : Int) then (if 0 ≤ x6 then ((q0y.f k x0 (rd x1 x6)).bind fun t374 => ((q0q.f k t374 (wrap64 (32 * x6))).bind fun t377 => ((q0f.f k x5 t377).bind fun t380 => (q0g.l0 k x0 x1 t380 (wrap64 (x6 + 1)))))) else (none)) else ((q0a.f k x5).bind fun t383 => (some t383))
def q0g.f (k : Nat) (l0 : List Int) (l1 : List Int) : Option (List Int) := q0g.l0 k l0 l1 ([] : List Int) 0
theorem q0g.calls (k : Nat) (A0 : Option Addr) (c0 : Nat) (l0 : List Int) (A1 : Option Addr) (c1 : Nat) (l1 : List Int) (r : List Int) (w : World) (hr0 : Kd.C (Kd.int .u32) w A0 l0.length l0) (hc0 : l0.length ≤ c0) (hr1 : Kd.C (Kd.int .u32) w A1 l1.length l1) (hc1 : l1.length ≤ c1) (h : q0g.f k l0 l1 = some r) :
  Calls Tryz.prog 61 #[.slice A0 l0.length c0,.slice A1 l1.length c1] w fun e w' => ∃ v0_ : Value,e = .returned (v0_) ∧ Kd.R (Kd.int .u32) 88 w' w.heap.size (fun _ => True) v0_ r ∧ Below w.heap.size w w' := by
 have HR0 := Aside0.mk hr0
 have HC0 := Aside0.mk hc0
 clear hr0 hc0
 have HR1 := Aside0.mk hr1
 have HC1 := Aside0.mk hc1
 clear hr1 hc1
 have HB := Aside0.mk (Below.refl w.heap.size w)
 have H : (q0g.l0 k l0 l1 ([] : List Int) 0) = some r := h
 clear h
 have H' := Aside0.mk H
 clear H
 go_enter Tryz.func61,Tryz.ntmps61
 go_wp2
 go_loopg [5,6] k (fun kq v5 v6 w' => ∃ (x5_1 : List Int) (x6_1 : Int),v6 = .int .i64 x6_1 ∧ Aside0 (q0g.l0 kq l0 l1 x5_1 x6_1 = some r) ∧ Aside0 (kq ≤ k) ∧ Aside0 (Kd.R (Kd.int .u32) 88 w' w.heap.size (fun _ => True) v5 x5_1) ∧ Aside0 (Below w.heap.size w w'))
 case atStart => exact ⟨(([] : List Int)),(0),(by rfl),H',⟨Nat.le_refl _⟩,⟨by exact Kd.R_nil _ _ _ _ _⟩,⟨hb0 HB⟩⟩
 case round =>
  clear H'
  obtain ⟨x5_1,x6_1,rfl,HA,HK1,HO_5,HB⟩ := hrel
  cases gk with
  | zero => exact absurd HA.out (by simp [q0g.l0])
  | succ k1 =>
   have H := HA.out
   clear HA
   simp only [q0g.l0] at H
   by_cases c3 : x6_1 < (l1.length : Int)
   ·rw [if_pos c3] at H
    have c3b0 : decide (x6_1 < (l1.length : Int)) = true := decide_eq_true c3
    by_cases c4 : 0 ≤ x6_1
    ·rw [if_pos c4] at H
     have c4b0 : decide (0 ≤ x6_1) = true := decide_eq_true c4
     obtain ⟨t374,A50,H⟩ := bs H
     have A5 := Aside0.mk A50
     clear A50
     obtain ⟨t377,A60,H⟩ := bs H
     have A6 := Aside0.mk A60
     clear A60
     obtain ⟨t380,A70,H⟩ := bs H
     have A7 := Aside0.mk A70
     clear A70
     have H' := Aside0.mk H
     clear H
     have p373 : 0 ≤ (x6_1 : Int) := od
     have q373 : x6_1 < (l1.length : Int) := od
     obtain ⟨ad373,e373,hx373_0⟩ := Kd.at_int HR1.out x6_1 p373 q373
     cases e373
     replace hx373_0 := (HB.out.cell (World.block_lt_of_cell? w _ hx373_0)).trans hx373_0
     replace p373 := eq_true p373
     replace q373 := eq_true q373
     go_wp2_with (first | ((with_reducible refine q0b (f := 103) rfl ?_); refine q0u (some 19) rfl rfl Tryz.func103 (by kernel_rfl) rfl #[.slice A0 l0.length c0,.int .u32 (rd l1 x6_1)] rfl (ml) ?_; (with_reducible refine (q0y.calls k1 _ _ l0 (rd l1 x6_1) t374 _ ?side1 ?side2 A5.out).mono ?_); (case side1 => exact cb HR0 HB); (case side2 => exact HC0.out); rintro e w8 ⟨v375,rfl,ho0,hb⟩; refine ⟨_,rfl,?_⟩; have HO376 := Aside0.mk (Kd.R_lower (Kd.R_new' ho0 (Kd.R_lt (rm HO_5))) (q0e (hb0 HB))); replace HO_5 := Aside0.mk (Kd.R_elder' (rm HO_5) (Kd.R_base ho0) hb); replace HB := Aside0.mk (q0h (hb0 HB) hb); obtain ⟨Ao9,co9,eo9⟩ := Kd.R_slice HO376.out; subst eo9) | ((with_reducible refine q0b (f := 102) rfl ?_); refine q0u (some 22) rfl rfl Tryz.func102 (by kernel_rfl) rfl #[.slice Ao9 t374.length co9,.int .i64 (wrap64 (32 * x6_1))] rfl (ml) ?_; (with_reducible refine (q0q.calls k1 _ _ t374 (wrap64 (32 * x6_1)) t377 _ ?side1 ?side2 A6.out).mono ?_); (case side1 => exact cr HO376); (case side2 => exact (Kd.R_reads' HO376.out).2.1); rintro e w10 ⟨v378,rfl,ho0,hb⟩; refine ⟨_,rfl,?_⟩; have HO379 := Aside0.mk (Kd.R_lower (Kd.R_new' (Kd.R_new' ho0 (Kd.R_lt (rm HO_5))) (Kd.R_lt (rm HO376))) (q0e (hb0 HB))); replace HO_5 := Aside0.mk (Kd.R_elder' (rm HO_5) (Kd.R_base ho0) hb); replace HO376 := Aside0.mk (Kd.R_elder' (rm HO376) (Kd.R_base ho0) hb); replace HB := Aside0.mk (q0h (hb0 HB) hb); obtain ⟨Ao11,co11,eo11⟩ := Kd.R_slice HO_5.out; subst eo11; obtain ⟨Ao12,co12,eo12⟩ := Kd.R_slice HO379.out; subst eo12) | ((with_reducible refine q0b (f := 99) rfl ?_); refine q0u (some 23) rfl rfl Tryz.func99 (by kernel_rfl) rfl #[.slice Ao11 x5_1.length co11,.slice Ao12 t377.length co12] rfl (ml) ?_; (with_reducible refine (q0f.calls k1 _ _ x5_1 _ _ t377 t380 _ ?side1 ?side2 ?side3 ?side4 A7.out).mono ?_); (case side1 => exact cr HO_5); (case side2 => exact (Kd.R_reads' HO_5.out).2.1); (case side3 => exact cr HO379); (case side4 => exact (Kd.R_reads' HO379.out).2.1); rintro e w13 ⟨v381,rfl,ho0,hb⟩; refine ⟨_,rfl,?_⟩; have HO382 := Aside0.mk (Kd.R_lower (Kd.R_new' (Kd.R_new' (Kd.R_new' ho0 (Kd.R_lt (rm HO_5))) (Kd.R_lt (rm HO376))) (Kd.R_lt (rm HO379))) (q0e (hb0 HB))); replace HO_5 := Aside0.mk (Kd.R_elder' (rm HO_5) (Kd.R_base ho0) hb); replace HO376 := Aside0.mk (Kd.R_elder' (rm HO376) (Kd.R_base ho0) hb); replace HO379 := Aside0.mk (Kd.R_elder' (rm HO379) (Kd.R_base ho0) hb); replace HB := Aside0.mk (q0h (hb0 HB) hb)))
     go_roundg k1
     case measure => have := HK1.out; omega
     case rel => exact ⟨(t380),(wrap64 (x6_1 + 1)),(by rfl),H',⟨by have := HK1.out; omega⟩,⟨by (with_reducible repeat (apply Kd.R_drew)); exact Kd.R_mono HO382.out (fun _ hk => trivial)⟩,⟨hb0 HB⟩⟩
    ·rw [if_neg c4] at H
     cases H
   ·rw [if_neg c3] at H
    have c3b0 : decide (x6_1 < (l1.length : Int)) = false := decide_eq_false c3
    obtain ⟨t383,A140,H⟩ := bs H
    have A14 := Aside0.mk A140
    clear A140
    obtain rfl := Option.some.inj H
    obtain ⟨Ao15,co15,eo15⟩ := Kd.R_slice HO_5.out
    subst eo15
    go_wp2_with (((with_reducible refine q0b (f := 63) rfl ?_); refine q0u (some 25) rfl rfl Tryz.func63 (by kernel_rfl) rfl #[.slice Ao15 x5_1.length co15] rfl (ml) ?_; (with_reducible refine (q0a.calls k1 _ _ x5_1 t383 _ ?side1 ?side2 A14.out).mono ?_); (case side1 => exact cr HO_5); (case side2 => exact (Kd.R_reads' HO_5.out).2.1); rintro e w16 ⟨v384,rfl,ho0,hb⟩; refine ⟨_,rfl,?_⟩; have HO385 := Aside0.mk (Kd.R_lower (Kd.R_new' ho0 (Kd.R_lt (rm HO_5))) (q0e (hb0 HB))); replace HO_5 := Aside0.mk (Kd.R_elder' (rm HO_5) (Kd.R_base ho0) hb); replace HB := Aside0.mk (q0h (hb0 HB) hb)))
    go_ret
    exact ⟨_,by rfl,by (with_reducible repeat (apply Kd.R_drew)); exact Kd.R_mono HO385.out (fun _ hk => trivial),hb0 HB⟩
def q2f.f (l0 : List Int) (a1 : Int) : Option (Bool) := if a1 ≥ 0 then ((q0m.f l0 (wrap64 (Int.tdiv a1 32))).bind fun t348 => (if 0 ≤ (IntKind.u64.wrap (Int.tmod a1 32)) then (some ((Go.bits .and .u64 (shr .u64 t348 (IntKind.u64.wrap (Int.tmod a1 32))) 1) == 1)) else (none))) else (some false)
theorem q2f.calls (A0 : Option Addr) (c0 : Nat) (l0 : List Int) (a1 : Int) (r : Bool) (w : World) (hr0 : Kd.C (Kd.int .u32) w A0 l0.length l0) (hc0 : l0.length ≤ c0) (h : q2f.f l0 a1 = some r) :
  Calls Tryz.prog 147 #[.slice A0 l0.length c0,.int .i64 a1] w fun e w' => e = .returned (.bool r) ∧ q0s w w' := by
 have HR0 := Aside0.mk hr0
 have HC0 := Aside0.mk hc0
 clear hr0 hc0
 have H := h
 unfold q2f.f at H
 clear h
 by_cases c3 : a1 ≥ 0
 ·rw [if_pos c3] at H
  have c3b0 : decide (0 ≤ a1) = true := decide_eq_true c3
  clear c3
  obtain ⟨t348,A40,H⟩ := bs H
  have A4 := Aside0.mk A40
  clear A40
  obtain ⟨ji5,hji5⟩ : ∃ j_ : Int,(IntKind.u64.wrap (Int.tmod a1 32)) = j_ := ⟨_,rfl⟩
  rw [hji5] at H
  (try rw [hji5] at A4)
  by_cases c6 : 0 ≤ (ji5)
  ·rw [if_pos c6] at H
   have c6b0 := eq_true c6
   have c6b1 : decide (0 ≤ (ji5)) = true := decide_eq_true c6
   clear c6
   obtain ⟨ji7,hji7⟩ : ∃ j_ : Int,(shr .u64 t348 (ji5)) = j_ := ⟨_,rfl⟩
   rw [hji7] at H
   (try rw [hji7] at A4)
   have hji7_ : (t348 / 2 ^ min (ji5).toNat 64) = ji7 := hji7
   have hji7z : (ji5) ≤ 64 → (t348 / 2 ^ (ji5).toNat) = ji7 := q7e hji7
   obtain rfl := Option.some.inj H
   go_enter Tryz.func147,Tryz.ntmps147
   go_wp2_with ((go_at_call 129; (with_reducible refine (q0m.calls _ _ l0 (wrap64 (Int.tdiv a1 32)) t348 _ ?side1 ?side2 A4.out).mono ?_); (case side1 => repeat (exact HR0.out)); (case side2 => exact HC0.out); rintro e w' ⟨rfl,⟨nd,rfl⟩⟩))
   go_ret
   exact ⟨by rfl,by repeat (first | exact q0s.refl _ | apply q0s.step)⟩
  ·rw [if_neg c6] at H
   cases H
 ·rw [if_neg c3] at H
  have c3b0 : decide (0 ≤ a1) = false := decide_eq_false c3
  clear c3
  obtain rfl := Option.some.inj H
  go_enter Tryz.func147,Tryz.ntmps147
  go_wp2
  go_ret
  exact ⟨by rfl,by repeat (exact q0s.refl _)⟩
def q0k.l0 : Nat → List Int → Int → Option (Int)
 | 0,_,_ => none
 | k + 1,x0,x3 => if x3 > 0 then ((q2f.f x0 (wrap64 (x3 - 1))).bind fun t349 => (if t349 = true then (some x3) else (q0k.l0 k x0 (wrap64 (x3 - 1))))) else (some x3)
def q0k.f (k : Nat) (l0 : List Int) : Option (Int) := q0k.l0 k l0 (wrap64 (32 * (l0.length : Int)))
theorem q0k.calls (k : Nat) (A0 : Option Addr) (c0 : Nat) (l0 : List Int) (r : Int) (w : World) (hr0 : Kd.C (Kd.int .u32) w A0 l0.length l0) (hc0 : l0.length ≤ c0) (h : q0k.f k l0 = some r) :
  Calls Tryz.prog 127 #[.slice A0 l0.length c0] w fun e w' => e = .returned (.int .i64 r) ∧ q0s w w' := by
 have HR0 := Aside0.mk hr0
 have HC0 := Aside0.mk hc0
 clear hr0 hc0
 have H := h
 unfold q0k.f at H
 clear h
 have H' := Aside0.mk H
 clear H
 go_enter Tryz.func127,Tryz.ntmps127
 go_wp2
 go_loopg [3] k (fun kq v3 w' => ∃ (x3_1 : Int),v3 = .int .i64 x3_1 ∧ Aside0 (q0k.l0 kq l0 x3_1 = some r) ∧ Aside0 (kq ≤ k) ∧ q0s w w')
 case atStart => exact ⟨(wrap64 (32 * (l0.length : Int))),(by rfl),H',⟨Nat.le_refl _⟩,by repeat (exact q0s.refl _)⟩
 case round =>
  clear H'
  obtain ⟨x3_1,rfl,HA,HK1,⟨m1,rfl⟩⟩ := hrel
  cases gk with
  | zero => exact absurd HA.out (by simp [q0k.l0])
  | succ k1 =>
   have H := HA.out
   clear HA
   simp only [q0k.l0] at H
   by_cases c2 : x3_1 > 0
   ·rw [if_pos c2] at H
    have c2b0 : decide (0 < x3_1) = true := decide_eq_true c2
    obtain ⟨t349,A30,H⟩ := bs H
    have A3 := Aside0.mk A30
    clear A30
    by_cases c4 : t349 = true
    ·subst c4
     have H1 : (some x3_1) = some r := by rw [if_pos rfl] at H; exact H
     clear H
     have H := H1
     clear H1
     obtain rfl := Option.some.inj H
     go_wp2_with ((go_at_call 147; (with_reducible refine (q2f.calls _ _ l0 (wrap64 (x3_1 - 1)) true _ ?side1 ?side2 A3.out).mono ?_); (case side1 => repeat (exact HR0.out)); (case side2 => exact HC0.out); rintro e w' ⟨rfl,⟨nd,rfl⟩⟩))
     go_ret
     exact ⟨by rfl,by repeat (first | exact q0s.refl _ | apply q0s.step)⟩
    ·replace c4 := Bool.eq_false_iff.mpr c4
     subst c4
     have H1 : (q0k.l0 k1 l0 (wrap64 (x3_1 - 1))) = some r := by rw [if_neg (show ¬ (false = true) by decide)] at H; exact H
     clear H
     have H := H1
     clear H1
     have H' := Aside0.mk H
     clear H
     go_wp2_with ((go_at_call 147; (with_reducible refine (q2f.calls _ _ l0 (wrap64 (x3_1 - 1)) false _ ?side1 ?side2 A3.out).mono ?_); (case side1 => repeat (exact HR0.out)); (case side2 => exact HC0.out); rintro e w' ⟨rfl,⟨nd,rfl⟩⟩))
     go_roundg k1
     case measure => have := HK1.out; omega
     case rel => exact ⟨(wrap64 (x3_1 - 1)),(by rfl),H',⟨by have := HK1.out; omega⟩,by repeat (first | exact q0s.refl _ | apply q0s.step)⟩
   ·rw [if_neg c2] at H
    have c2b0 : decide (0 < x3_1) = false := decide_eq_false c2
    obtain rfl := Option.some.inj H
    go_wp2
    go_ret
    exact ⟨by rfl,by repeat (first | exact q0s.refl _ | apply q0s.step)⟩
def q0j.l0 : Nat → List Int → Int → List Int → Int → Option (List Int)
 | 0,_,_,_,_ => none
 | k + 1,x0,x1,x5,x6 => if x6 < (x0.length : Int) then (if 0 ≤ x6 then (if (wrap64 (x6 + 1)) < (x0.length : Int) then (if 0 ≤ (wrap64 (x6 + 1)) then (if 0 ≤ (IntKind.u64.wrap (Int.tmod x1 32)) then (if x5.length < 35184372088832 then (q0j.l0 k x0 x1 (x5 ++ [(shr .u64 (Go.bits .or .u64 (IntKind.u64.wrap (rd x0 x6)) (IntKind.u64.wrap ((IntKind.u64.wrap (rd x0 (wrap64 (x6 + 1)))) * 4294967296))) (IntKind.u64.wrap (Int.tmod x1 32))) % 4294967296]) (wrap64 (x6 + 1))) else (none)) else (none)) else (none)) else (if 0 ≤ (IntKind.u64.wrap (Int.tmod x1 32)) then (if x5.length < 35184372088832 then (q0j.l0 k x0 x1 (x5 ++ [(shr .u64 (IntKind.u64.wrap (rd x0 x6)) (IntKind.u64.wrap (Int.tmod x1 32))) % 4294967296]) (wrap64 (x6 + 1))) else (none)) else (none))) else (none)) else ((q0a.f k x5).bind fun t394 => (some t394))
def q0j.f (k : Nat) (l0 : List Int) (a1 : Int) : Option (List Int) := q0j.l0 k l0 a1 ([] : List Int) (wrap64 (Int.tdiv a1 32))
theorem q0j.calls (k : Nat) (A0 : Option Addr) (c0 : Nat) (l0 : List Int) (a1 : Int) (r : List Int) (w : World) (hr0 : Kd.C (Kd.int .u32) w A0 l0.length l0) (hc0 : l0.length ≤ c0) (h : q0j.f k l0 a1 = some r) :
  Calls Tryz.prog 128 #[.slice A0 l0.length c0,.int .i64 a1] w fun e w' => ∃ v0_ : Value,e = .returned (v0_) ∧ Kd.R (Kd.int .u32) 88 w' w.heap.size (fun _ => True) v0_ r ∧ Below w.heap.size w w' := by
 have HR0 := Aside0.mk hr0
 have HC0 := Aside0.mk hc0
 clear hr0 hc0
 have HB := Aside0.mk (Below.refl w.heap.size w)
 have H := h
 unfold q0j.f at H
 clear h
 have H' := Aside0.mk H
 clear H
 go_enter Tryz.func128,Tryz.ntmps128
 go_wp2
 go_loopg [5,6] k (fun kq v5 v6 w' => ∃ (x5_1 : List Int) (x6_1 : Int),v6 = .int .i64 x6_1 ∧ Aside0 (q0j.l0 kq l0 a1 x5_1 x6_1 = some r) ∧ Aside0 (kq ≤ k) ∧ Aside0 (Kd.R (Kd.int .u32) 88 w' w.heap.size (fun _ => True) v5 x5_1) ∧ Aside0 (Below w.heap.size w w'))
 case atStart => exact ⟨(([] : List Int)),(wrap64 (Int.tdiv a1 32)),(by rfl),H',⟨Nat.le_refl _⟩,⟨by exact Kd.R_nil _ _ _ _ _⟩,⟨hb0 HB⟩⟩
 case round =>
  clear H'
  obtain ⟨x5_1,x6_1,rfl,HA,HK1,HO_5,HB⟩ := hrel
  cases gk with
  | zero => exact absurd HA.out (by simp [q0j.l0])
  | succ k1 =>
   have H := HA.out
   clear HA
   simp only [q0j.l0] at H
   by_cases c3 : x6_1 < (l0.length : Int)
   ·rw [if_pos c3] at H
    have c3b0 : decide (x6_1 < (l0.length : Int)) = true := decide_eq_true c3
    by_cases c4 : 0 ≤ x6_1
    ·rw [if_pos c4] at H
     have c4b0 : decide (0 ≤ x6_1) = true := decide_eq_true c4
     by_cases c5 : (wrap64 (x6_1 + 1)) < (l0.length : Int)
     ·rw [if_pos c5] at H
      have c5b0 : decide ((wrap64 (x6_1 + 1)) < (l0.length : Int)) = true := decide_eq_true c5
      obtain ⟨ji6,hji6⟩ : ∃ j_ : Int,(wrap64 (x6_1 + 1)) = j_ := ⟨_,rfl⟩
      rw [hji6] at H
      (try rw [hji6] at c5b0)
      have hji6w : (IntKind.i64.wrap (x6_1 + 1)) = ji6 := (q4i _).trans hji6
      by_cases c7 : 0 ≤ (ji6)
      ·rw [if_pos c7] at H
       have c7b0 : decide (0 ≤ (ji6)) = true := decide_eq_true c7
       obtain ⟨ji8,hji8⟩ : ∃ j_ : Int,(IntKind.u64.wrap (Int.tmod a1 32)) = j_ := ⟨_,rfl⟩
       rw [hji8] at H
       by_cases c9 : 0 ≤ (ji8)
       ·rw [if_pos c9] at H
        have c9b0 := eq_true c9
        have c9b1 : decide (0 ≤ (ji8)) = true := decide_eq_true c9
        obtain ⟨ji10,hji10⟩ : ∃ j_ : Int,(shr .u64 (Go.bits .or .u64 (IntKind.u64.wrap (rd l0 x6_1)) (IntKind.u64.wrap ((IntKind.u64.wrap (rd l0 (ji6))) * 4294967296))) (ji8)) = j_ := ⟨_,rfl⟩
        rw [hji10] at H
        have hji10_ : ((Go.bits .or .u64 (IntKind.u64.wrap (rd l0 x6_1)) (IntKind.u64.wrap ((IntKind.u64.wrap (rd l0 (ji6))) * 4294967296))) / 2 ^ min (ji8).toNat 64) = ji10 := hji10
        have hji10z : (ji8) ≤ 64 → ((Go.bits .or .u64 (IntKind.u64.wrap (rd l0 x6_1)) (IntKind.u64.wrap ((IntKind.u64.wrap (rd l0 (ji6))) * 4294967296))) / 2 ^ (ji8).toNat) = ji10 := q7e hji10
        by_cases c11 : x5_1.length < 35184372088832
        ·rw [if_pos c11] at H
         have LMc11 := Aside0.mk c11
         obtain ⟨y388,hy388⟩ : ∃ y_ : List Int,y_ = (x5_1 ++ [(ji10) % 4294967296]) := ⟨_,rfl⟩
         rw [← hy388] at H
         have Ny388 := Aside0.mk hy388
         clear hy388
         have H' := Aside0.mk H
         clear H
         have p386 : 0 ≤ (x6_1 : Int) := od
         have q386 : x6_1 < (l0.length : Int) := od
         obtain ⟨ad386,e386,hx386_0⟩ := Kd.at_int HR0.out x6_1 p386 q386
         cases e386
         replace hx386_0 := (HB.out.cell (World.block_lt_of_cell? w _ hx386_0)).trans hx386_0
         replace p386 := eq_true p386
         replace q386 := eq_true q386
         have p387 : 0 ≤ ((ji6) : Int) := od
         have q387 : (ji6) < (l0.length : Int) := od
         obtain ⟨ad387,e387,hx387_0⟩ := Kd.at_int HR0.out (ji6) p387 q387
         obtain rfl : ad386 = ad387 := (by injection e387)
         replace hx387_0 := (HB.out.cell (World.block_lt_of_cell? w _ hx387_0)).trans hx387_0
         replace p387 := eq_true p387
         replace q387 := eq_true q387
         go_wp2_with (((with_reducible refine q1u (b := .append) (xs := #[.tmp 35,.tmp 42]) rfl ?_); at_builtin; refine Kd.R_append (Kd.int .u32) (w0 := w) w.heap.size rfl (.tmp 35) (.tmp 42) 43 88 (.int .u32 0) 4 rfl Tryz.underlying43 q3a rfl (by decide) (by omega) u5 x5_1 ((ji10) % 4294967296) [.int .u32 ((ji10) % 4294967296)] (fun _ => True) (fun _ => False) rfl rfl ?aP (fun _ hk => hk.elim) ?aF ?aO ?aB ?aS ?aL ?_; (case aP => exact rfl); (case aB => exact (hb0 HB)); (case aF => exact (fun _ _ => trivial)); (case aO => exact (rm HO_5)); (case aS => exact (q0e (hb0 HB))); (case aL => have := LMc11.out; omega); intro v389 w12 ho hb hg hat; rw [← Ny388.out] at ho; have n0_ := Aside0.mk (hb); have n1_ := Aside0.mk (ho); clear HB; clear HO_5; have HB := n0_; have HO390 := n1_; clear n0_ n1_; clear ho hb hg hat))
         go_roundg k1
         case measure => have := HK1.out; omega
         case rel => exact ⟨(y388),(ji6),(by rfl),H',⟨by have := HK1.out; omega⟩,⟨rm HO390⟩,⟨hb0 HB⟩⟩
        ·rw [if_neg c11] at H
         cases H
       ·rw [if_neg c9] at H
        cases H
      ·rw [if_neg c7] at H
       cases H
     ·rw [if_neg c5] at H
      have c5b0 : decide ((wrap64 (x6_1 + 1)) < (l0.length : Int)) = false := decide_eq_false c5
      obtain ⟨ji13,hji13⟩ : ∃ j_ : Int,(IntKind.u64.wrap (Int.tmod a1 32)) = j_ := ⟨_,rfl⟩
      rw [hji13] at H
      by_cases c14 : 0 ≤ (ji13)
      ·rw [if_pos c14] at H
       have c14b0 := eq_true c14
       have c14b1 : decide (0 ≤ (ji13)) = true := decide_eq_true c14
       obtain ⟨ji15,hji15⟩ : ∃ j_ : Int,(shr .u64 (IntKind.u64.wrap (rd l0 x6_1)) (ji13)) = j_ := ⟨_,rfl⟩
       rw [hji15] at H
       have hji15_ : ((IntKind.u64.wrap (rd l0 x6_1)) / 2 ^ min (ji13).toNat 64) = ji15 := hji15
       have hji15z : (ji13) ≤ 64 → ((IntKind.u64.wrap (rd l0 x6_1)) / 2 ^ (ji13).toNat) = ji15 := q7e hji15
       by_cases c16 : x5_1.length < 35184372088832
       ·rw [if_pos c16] at H
        have LMc16 := Aside0.mk c16
        obtain ⟨y391,hy391⟩ : ∃ y_ : List Int,y_ = (x5_1 ++ [(ji15) % 4294967296]) := ⟨_,rfl⟩
        rw [← hy391] at H
        have Ny391 := Aside0.mk hy391
        clear hy391
        have H' := Aside0.mk H
        clear H
        have p386 : 0 ≤ (x6_1 : Int) := od
        have q386 : x6_1 < (l0.length : Int) := od
        obtain ⟨ad386,e386,hx386_0⟩ := Kd.at_int HR0.out x6_1 p386 q386
        cases e386
        replace hx386_0 := (HB.out.cell (World.block_lt_of_cell? w _ hx386_0)).trans hx386_0
        replace p386 := eq_true p386
        replace q386 := eq_true q386
        go_wp2_with (((with_reducible refine q1u (b := .append) (xs := #[.tmp 35,.tmp 42]) rfl ?_); at_builtin; refine Kd.R_append (Kd.int .u32) (w0 := w) w.heap.size rfl (.tmp 35) (.tmp 42) 43 88 (.int .u32 0) 4 rfl Tryz.underlying43 q3a rfl (by decide) (by omega) u5 x5_1 ((ji15) % 4294967296) [.int .u32 ((ji15) % 4294967296)] (fun _ => True) (fun _ => False) rfl rfl ?aP (fun _ hk => hk.elim) ?aF ?aO ?aB ?aS ?aL ?_; (case aP => exact rfl); (case aB => exact (hb0 HB)); (case aF => exact (fun _ _ => trivial)); (case aO => exact (rm HO_5)); (case aS => exact (q0e (hb0 HB))); (case aL => have := LMc16.out; omega); intro v392 w17 ho hb hg hat; rw [← Ny391.out] at ho; have n0_ := Aside0.mk (hb); have n1_ := Aside0.mk (ho); clear HB; clear HO_5; have HB := n0_; have HO393 := n1_; clear n0_ n1_; clear ho hb hg hat))
        go_roundg k1
        case measure => have := HK1.out; omega
        case rel => exact ⟨(y391),(wrap64 (x6_1 + 1)),(by rfl),H',⟨by have := HK1.out; omega⟩,⟨rm HO393⟩,⟨hb0 HB⟩⟩
       ·rw [if_neg c16] at H
        cases H
      ·rw [if_neg c14] at H
       cases H
    ·rw [if_neg c4] at H
     cases H
   ·rw [if_neg c3] at H
    have c3b0 : decide (x6_1 < (l0.length : Int)) = false := decide_eq_false c3
    obtain ⟨t394,A180,H⟩ := bs H
    have A18 := Aside0.mk A180
    clear A180
    obtain rfl := Option.some.inj H
    obtain ⟨Ao19,co19,eo19⟩ := Kd.R_slice HO_5.out
    subst eo19
    go_wp2_with (((with_reducible refine q0b (f := 63) rfl ?_); refine q0u (some 45) rfl rfl Tryz.func63 (by kernel_rfl) rfl #[.slice Ao19 x5_1.length co19] rfl (ml) ?_; (with_reducible refine (q0a.calls k1 _ _ x5_1 t394 _ ?side1 ?side2 A18.out).mono ?_); (case side1 => exact cr HO_5); (case side2 => exact (Kd.R_reads' HO_5.out).2.1); rintro e w20 ⟨v395,rfl,ho0,hb⟩; refine ⟨_,rfl,?_⟩; have HO396 := Aside0.mk (Kd.R_lower (Kd.R_new' ho0 (Kd.R_lt (rm HO_5))) (q0e (hb0 HB))); replace HO_5 := Aside0.mk (Kd.R_elder' (rm HO_5) (Kd.R_base ho0) hb); replace HB := Aside0.mk (q0h (hb0 HB) hb)))
    go_ret
    exact ⟨_,by rfl,by (with_reducible repeat (apply Kd.R_drew)); exact Kd.R_mono HO396.out (fun _ hk => trivial),hb0 HB⟩
def q0d.l0 : Nat → List Int → List Int → List Int → Int → Option (List Int × List Int × Bool)
 | 0,_,_,_,_ => none
 | k + 1,x5,x7,x8,x9 => if x9 ≥ 0 then ((q0n.f k x5 x8).bind fun t413 => (if t413 ≥ 0 then ((q0l.f k x5 x8).bind fun t414 => (if 0 ≤ (wrap64 (Int.tdiv x9 32)) then (if (wrap64 (Int.tdiv x9 32)) < (x7.length : Int) then (if 0 ≤ (IntKind.u64.wrap (Int.tmod x9 32)) then ((q0j.f k x8 1).bind fun t419 => (q0d.l0 k t414 (x7.set ((wrap64 (Int.tdiv x9 32)) : Int).toNat (Go.bits .or .u32 (rd x7 (wrap64 (Int.tdiv x9 32))) (shl .u32 1 (IntKind.u64.wrap (Int.tmod x9 32))))) t419 (wrap64 (x9 - 1)))) else (none)) else (none)) else (none))) else ((q0j.f k x8 1).bind fun t422 => (q0d.l0 k x5 x7 t422 (wrap64 (x9 - 1)))))) else ((q0a.f k x7).bind fun t410 => (some (t410,x5,true)))
def q0d.f (k : Nat) (l0 : List Int) (l1 : List Int) : Option (List Int × List Int × Bool) := (q0k.f k l1).bind fun t398 => (if t398 = 0 then (some (([] : List Int),([] : List Int),false)) else ((q0a.f k l0).bind fun t399 => ((q0k.f k l0).bind fun t402 => ((q0k.f k l1).bind fun t403 => (if 0 ≤ (wrap64 ((wrap64 (Int.tdiv (mx 0 (wrap64 (t402 - t403))) 32)) + 1)) then (if (wrap64 ((wrap64 (Int.tdiv (mx 0 (wrap64 (t402 - t403))) 32)) + 1) : Int).toNat ≤ 70368744177664 then ((q0q.f k l1 (mx 0 (wrap64 (t402 - t403)))).bind fun t407 => (q0d.l0 k t399 (List.replicate (wrap64 ((wrap64 (Int.tdiv (mx 0 (wrap64 (t402 - t403))) 32)) + 1) : Int).toNat 0) t407 (mx 0 (wrap64 (t402 - t403))))) else (none)) else (none))))))
theorem q0d.calls (k : Nat) (A0 : Option Addr) (c0 : Nat) (l0 : List Int) (A1 : Option Addr) (c1 : Nat) (l1 : List Int) (r1 : List Int) (r2 : List Int) (r3 : Bool) (w : World) (hr0 : Kd.C (Kd.int .u32) w A0 l0.length l0) (hc0 : l0.length ≤ c0) (hr1 : Kd.C (Kd.int .u32) w A1 l1.length l1) (hc1 : l1.length ≤ c1) (h : q0d.f k l0 l1 = some (r1,r2,r3)) :
  Calls Tryz.prog 98 #[.slice A0 l0.length c0,.slice A1 l1.length c1] w fun e w' => ∃ v0_ v1_ : Value,e = .returned (.agg #[v0_,v1_,.bool r3]) ∧ Kd.R (Kd.int .u32) 88 w' w.heap.size (fun k_ => some k_ ≠ (v1_ : Value).ownBlock) v0_ r1 ∧ Kd.R (Kd.int .u32) 88 w' w.heap.size (fun k_ => some k_ ≠ (v0_ : Value).ownBlock) v1_ r2 ∧ Below w.heap.size w w' := by
 have hu138 := Tryz.underlying138
 have HR0 := Aside0.mk hr0
 have HC0 := Aside0.mk hc0
 clear hr0 hc0
 have HR1 := Aside0.mk hr1
 have HC1 := Aside0.mk hc1
 clear hr1 hc1
 have HB := Aside0.mk (Below.refl w.heap.size w)
 have H := h
 unfold q0d.f at H
 clear h
 obtain ⟨t398,A30,H⟩ := bs H
 have A3 := Aside0.mk A30
 clear A30
 by_cases c4 : t398 = 0
 ·rw [if_pos c4] at H
  have c4b0 : (t398 == 0) = true := beq_iff_eq.mpr c4
  have c4b1 : (t398 != 0) = false := bne_eq_false_iff_eq.mpr c4
  clear c4
  simp only [Option.some.injEq,Prod.mk.injEq] at H
  obtain ⟨rfl,rfl,rfl⟩ := H
  go_enter Tryz.func98,Tryz.ntmps98
  go_wp2_with (first | ((with_reducible refine q3b (N := 4) rfl ?_); refine qKu ?hg (N := 4) ?hd (cs := #[.slice none 0 0,.slice none 0 0,.bool false]) (t := 138) ?hr ?_; (case hd => rfl); (case hg => rfl); (case hr => (go_simp; done)); intro gb397 hg w5 hbox hb; have BK397 := Aside0.mk (hbox); have GW397 := Aside0.mk ((by rw [hg]; exact (q0e (hb0 HB)) : w.heap.size ≤ gb397)); have GE397 := Aside0.mk ((by rw [hg]; exact (q0e (hb0 HB)) : w.heap.size ≤ gb397)); replace HB := Aside0.mk (q0h (hb0 HB) hb); clear hb hbox hg) | ((with_reducible refine q0b (f := 127) rfl ?_); refine q0u (some 11) rfl rfl Tryz.func127 (by kernel_rfl) rfl #[.slice A1 l1.length c1] rfl (ml) ?_; (with_reducible refine (q0k.calls k _ _ l1 t398 _ ?side1 ?side2 A3.out).mono ?_); (case side1 => exact cb HR1 HB); (case side2 => exact HC1.out); rintro e w' ⟨rfl,⟨nd,rfl⟩⟩; refine ⟨_,rfl,?_⟩; (try (rw [q8u w5]; generalize hq_ : World.drewN w5 _ = w5; have n0_ : Aside0 (w5.heap[gb397]? = some (.cells #[.slice none 0 0,.slice none 0 0,.bool false] 138 (0,0))) := ⟨by rw [← hq_]; exact (bm BK397)⟩; have n1_ : Aside0 (Below w.heap.size w w5) := ⟨by rw [← hq_]; exact (hb1 HB GE397)⟩; clear BK397 HB hq_; have BK397 := n0_; have HB := n1_; clear n0_ n1_)); have hcz6_0 := cz0 BK397; have hcz6_1 := cz1 BK397; have hcz6_2 := cz2 BK397; have hfz6_0 := q5d BK397.out 0; have hfz6_1 := q5d BK397.out 1; have hfz6_2 := q5d BK397.out 2))
  refine bodyPost_ret (results_cell_row rfl _ _ gb397 138 #[.slice none 0 0,.slice none 0 0,.bool false] (0,0) _ rfl (by (with_reducible repeat (refine q5h ?_)); refine qBo (cs := #[.slice none 0 0,.slice none 0 0,.bool false]) ?_ 2 _ rfl; (with_reducible repeat (refine q5h ?_)); refine qBo (cs := #[.slice none 0 0,.slice none 0 0,.bool false]) ?_ 1 _ rfl; (with_reducible repeat (refine q5h ?_)); refine qBo (cs := #[.slice none 0 0,.slice none 0 0,.bool false]) ?_ 0 _ rfl; (with_reducible repeat (refine q5h ?_)); exact BK397.out) Tryz.underlying138 rfl (by kernel_rfl)) rfl ?_
  exact ⟨_,_,by rfl,by exact Kd.R_nil _ _ _ _ _,by exact Kd.R_nil _ _ _ _ _,hb1 HB GE397⟩
 ·rw [if_neg c4] at H
  have c4b0 : (t398 == 0) = false := beq_eq_false_iff_ne.mpr c4
  have c4b1 : (t398 != 0) = true := bne_iff_ne.mpr c4
  obtain ⟨t399,A70,H⟩ := bs H
  have A7 := Aside0.mk A70
  clear A70
  obtain ⟨t402,A80,H⟩ := bs H
  have A8 := Aside0.mk A80
  clear A80
  obtain ⟨t403,A90,H⟩ := bs H
  have A9 := Aside0.mk A90
  clear A90
  obtain ⟨ji10,hji10⟩ : ∃ j_ : Int,(mx 0 (wrap64 (t402 - t403))) = j_ := ⟨_,rfl⟩
  rw [hji10] at H
  (try rw [hji10] at A3)
  (try rw [hji10] at A7)
  (try rw [hji10] at A8)
  (try rw [hji10] at A9)
  (try (have hji10l : 0 ≤ ji10 := by (rw [← hji10]; unfold mx; (repeat' split) <;> omega)))
  (try (have hji10m : 0 ≤ ji10 := by omega))
  have hji10_ : (if 0 < (wrap64 (t402 - t403)) then (wrap64 (t402 - t403)) else 0) = ji10 := hji10
  obtain ⟨ji11,hji11⟩ : ∃ j_ : Int,(wrap64 ((wrap64 (Int.tdiv (ji10) 32)) + 1)) = j_ := ⟨_,rfl⟩
  rw [hji11] at H
  (try rw [hji11] at A3)
  (try rw [hji11] at A7)
  (try rw [hji11] at A8)
  (try rw [hji11] at A9)
  have hji11w : (IntKind.i64.wrap ((wrap64 (Int.tdiv (ji10) 32)) + 1)) = ji11 := (q4i _).trans hji11
  by_cases c12 : 0 ≤ (ji11)
  ·rw [if_pos c12] at H
   have c12b0 := eq_true c12
   have c12b1 : decide (0 ≤ (ji11)) = true := decide_eq_true c12
   clear c12
   by_cases c13 : (ji11 : Int).toNat ≤ 70368744177664
   ·rw [if_pos c13] at H
    have c13b0 := eq_true c13
    have c13b1 : decide ((ji11 : Int).toNat ≤ 70368744177664) = true := decide_eq_true c13
    clear c13
    obtain ⟨y404,hy404⟩ : ∃ y_ : List Int,y_ = (List.replicate (ji11 : Int).toNat 0) := ⟨_,rfl⟩
    rw [← hy404] at H
    have Ny404 := Aside0.mk hy404
    clear hy404
    obtain ⟨t407,A140,H⟩ := bs H
    have A14 := Aside0.mk A140
    clear A140
    have H' := Aside0.mk H
    clear H
    go_enter Tryz.func98,Tryz.ntmps98
    go_wp2_with (first | ((with_reducible refine q3b (N := 4) rfl ?_); refine qKu ?hg (N := 4) ?hd (cs := #[.slice none 0 0,.slice none 0 0,.bool false]) (t := 138) ?hr ?_; (case hd => rfl); (case hg => rfl); (case hr => (go_simp; done)); intro gb397 hg w15 hbox hb; have BK397 := Aside0.mk (hbox); have GW397 := Aside0.mk ((by rw [hg]; exact (q0e (hb0 HB)) : w.heap.size ≤ gb397)); have GE397 := Aside0.mk ((by rw [hg]; exact (q0e (hb0 HB)) : w.heap.size ≤ gb397)); replace HB := Aside0.mk (q0h (hb0 HB) hb); clear hb hbox hg) | ((with_reducible refine q0b (f := 127) rfl ?_); refine q0u (some 11) rfl rfl Tryz.func127 (by kernel_rfl) rfl #[.slice A1 l1.length c1] rfl (ml) ?_; (with_reducible refine (q0k.calls k _ _ l1 t398 _ ?side1 ?side2 A3.out).mono ?_); (case side1 => exact cb HR1 HB); (case side2 => exact HC1.out); rintro e w' ⟨rfl,⟨nd,rfl⟩⟩; refine ⟨_,rfl,?_⟩) | ((with_reducible refine q0b (f := 63) rfl ?_); refine q0u (some 15) rfl rfl Tryz.func63 (by kernel_rfl) rfl #[.slice A0 l0.length c0] rfl (ml) ?_; (with_reducible refine (q0a.calls k _ _ l0 t399 _ ?side1 ?side2 A7.out).mono ?_); (case side1 => repeat (exact (Kd.C_below HR0.out (hb1 HB GE397)))); (case side2 => exact HC0.out); rintro e w16 ⟨v400,rfl,ho0,hb⟩; refine ⟨_,rfl,?_⟩; have HO401 := Aside0.mk (Kd.R_lower ho0 (q0e (hb1 HB GE397))); replace BK397 := Aside0.mk (bb BK397 hb); replace HB := Aside0.mk (q0h (hb1 HB GE397) hb)) | ((with_reducible refine q0b (f := 127) rfl ?_); refine q0u (some 17) rfl rfl Tryz.func127 (by kernel_rfl) rfl #[.slice A0 l0.length c0] rfl (ml) ?_; (with_reducible refine (q0k.calls k _ _ l0 t402 _ ?side1 ?side2 A8.out).mono ?_); (case side1 => exact cb HR0 HB); (case side2 => exact HC0.out); rintro e w' ⟨rfl,⟨nd,rfl⟩⟩; refine ⟨_,rfl,?_⟩) | ((with_reducible refine q0b (f := 127) rfl ?_); refine q0u (some 19) rfl rfl Tryz.func127 (by kernel_rfl) rfl #[.slice A1 l1.length c1] rfl (ml) ?_; (with_reducible refine (q0k.calls k _ _ l1 t403 _ ?side1 ?side2 A9.out).mono ?_); (case side1 => repeat (exact (Kd.C_below HR1.out (hb1 HB GE397)))); (case side2 => exact HC1.out); rintro e w' ⟨rfl,⟨nd,rfl⟩⟩; refine ⟨_,rfl,?_⟩) | ((with_reducible refine q3b (N := 25) rfl ?_); refine Kd.R_make (Kd.int .u32) _ 88 rfl (N := 25) rfl 43 _ _ rfl ji11 rfl rfl Tryz.underlying43 (.int .u32 0) 4 q3a rfl (by decide) (by omega) 0 (ok := fun _ => True) (okp := fun _ => True) rfl (fun _ hk => hk) trivial (od) (Nat.le_trans (Nat.mul_le_mul_right _ (od : ji11.toNat ≤ 70368744177664)) (by omega)) (Below.refl _ _) (Nat.le_refl _) ?_; intro v405 w17 ho18 hb hg_ hnew_; clear hg_ hnew_; (rw [← Ny404.out] at ho18); have HO406 := Aside0.mk (Kd.R_lower (Kd.R_new' ho18 (Kd.R_lt (rm HO401))) (q0e (hb1 HB GE397))); replace HO401 := Aside0.mk (Kd.R_elder' (rm HO401) (Kd.R_base ho18) hb); replace BK397 := Aside0.mk (bb BK397 hb); replace HB := Aside0.mk (q0h (hb1 HB GE397) hb); clear hb ho18) | ((with_reducible refine q0b (f := 102) rfl ?_); refine q0u (some 28) rfl rfl Tryz.func102 (by kernel_rfl) rfl #[.slice A1 l1.length c1,.int .i64 ji10] rfl (by (try simp only [List.map_toArray,List.map_cons,List.map_nil]); rfl) ?_; (with_reducible refine (q0q.calls k _ _ l1 ji10 t407 _ ?side1 ?side2 A14.out).mono ?_); (case side1 => exact cb HR1 HB); (case side2 => exact HC1.out); rintro e w19 ⟨v408,rfl,ho0,hb⟩; refine ⟨_,rfl,?_⟩; have HO409 := Aside0.mk (Kd.R_lower (Kd.R_new' (Kd.R_new' ho0 (Kd.R_lt (rm HO401))) (Kd.R_lt (rm HO406))) (q0e (hb1 HB GE397))); replace HO401 := Aside0.mk (Kd.R_elder' (rm HO401) (Kd.R_base ho0) hb); replace HO406 := Aside0.mk (Kd.R_elder' (rm HO406) (Kd.R_base ho0) hb); replace BK397 := Aside0.mk (bb BK397 hb); replace HB := Aside0.mk (q0h (hb1 HB GE397) hb)))
    go_loopg [5,8,9] k (fun kq v5 v8 v9 w' => ∃ (x5_1 : List Int) (x7_1 : List Int) (x8_1 : List Int) (x9_1 : Int),v9 = .int .i64 x9_1 ∧ Aside0 (q0d.l0 kq x5_1 x7_1 x8_1 x9_1 = some (r1,r2,r3)) ∧ Aside0 (kq ≤ k) ∧ Aside0 (Kd.R (Kd.int .u32) 88 w' w.heap.size (fun k_ => some k_ ≠ (v405 : Value).ownBlock ∧ some k_ ≠ (v8 : Value).ownBlock) v5 x5_1) ∧ Aside0 (Kd.R (Kd.int .u32) 88 w' w.heap.size (fun k_ => some k_ ≠ (v5 : Value).ownBlock ∧ some k_ ≠ (v8 : Value).ownBlock) v405 x7_1) ∧ Aside0 (Kd.R (Kd.int .u32) 88 w' w.heap.size (fun k_ => some k_ ≠ (v5 : Value).ownBlock ∧ some k_ ≠ (v405 : Value).ownBlock) v8 x8_1) ∧ Aside0 (w'.heap[gb397]? = some (.cells #[(.slice none 0 0),(.slice none 0 0),.bool false] 138 (0,0))) ∧ Aside0 (Below w.heap.size w w'))
    case atStart => exact ⟨(t399),(y404),(t407),(ji10),(by rfl),H',⟨Nat.le_refl _⟩,⟨by (with_reducible repeat (apply Kd.R_drew)); exact Kd.R_mono HO401.out (fun _ hk => ⟨hk.1.2,hk.2⟩)⟩,⟨by (with_reducible repeat (apply Kd.R_drew)); exact Kd.R_mono HO406.out (fun _ hk => ⟨hk.1.2,hk.2⟩)⟩,⟨by (with_reducible repeat (apply Kd.R_drew)); exact Kd.R_mono HO409.out (fun _ hk => ⟨hk.1.2,hk.2⟩)⟩,⟨bm BK397⟩,⟨hb1 HB GE397⟩⟩
    case round =>
     clear H'
     obtain ⟨x5_1,x7_1,x8_1,x9_1,rfl,HA,HK1,HO_5,HO_7,HO_8,BK397,HB⟩ := hrel
     cases gk with
     | zero => exact absurd HA.out (by simp [q0d.l0])
     | succ k1 =>
      have H := HA.out
      clear HA
      simp only [q0d.l0] at H
      by_cases c20 : x9_1 ≥ 0
      ·rw [if_pos c20] at H
       have c20b0 : decide (0 ≤ x9_1) = true := decide_eq_true c20
       clear c20
       obtain ⟨t413,A210,H⟩ := bs H
       have A21 := Aside0.mk A210
       clear A210
       by_cases c22 : t413 ≥ 0
       ·rw [if_pos c22] at H
        have c22b0 : decide (0 ≤ t413) = true := decide_eq_true c22
        clear c22
        obtain ⟨t414,A230,H⟩ := bs H
        have A23 := Aside0.mk A230
        clear A230
        obtain ⟨ji24,hji24⟩ : ∃ j_ : Int,(wrap64 (Int.tdiv x9_1 32)) = j_ := ⟨_,rfl⟩
        rw [hji24] at H
        (try rw [hji24] at A21)
        (try rw [hji24] at A23)
        have hji24w : (IntKind.i64.wrap (Int.tdiv x9_1 32)) = ji24 := (q4i _).trans hji24
        by_cases c25 : 0 ≤ (ji24)
        ·rw [if_pos c25] at H
         have c25b0 : decide (0 ≤ (ji24)) = true := decide_eq_true c25
         clear c25
         by_cases c26 : (ji24) < (x7_1.length : Int)
         ·rw [if_pos c26] at H
          have c26b0 : decide ((ji24) < (x7_1.length : Int)) = true := decide_eq_true c26
          clear c26
          obtain ⟨ji27,hji27⟩ : ∃ j_ : Int,(IntKind.u64.wrap (Int.tmod x9_1 32)) = j_ := ⟨_,rfl⟩
          rw [hji27] at H
          (try rw [hji27] at A21)
          (try rw [hji27] at A23)
          by_cases c28 : 0 ≤ (ji27)
          ·rw [if_pos c28] at H
           have c28b0 := eq_true c28
           have c28b1 : decide (0 ≤ (ji27)) = true := decide_eq_true c28
           clear c28
           obtain ⟨ji29,hji29⟩ : ∃ j_ : Int,(shl .u32 1 (ji27)) = j_ := ⟨_,rfl⟩
           rw [hji29] at H
           (try rw [hji29] at A21)
           (try rw [hji29] at A23)
           have hji29_ : (IntKind.u32.wrap (1 * 2 ^ min (ji27).toNat 32)) = ji29 := hji29
           have hji29z : (ji27) ≤ 32 → (IntKind.u32.wrap (1 * 2 ^ (ji27).toNat)) = ji29 := qDj hji29
           have hji29u : (IntKind.u32.wrap (2 ^ min (ji27).toNat 32)) = ji29 := by have h_ := hji29_; rw [Int.one_mul] at h_; exact h_
           have hji29v : (ji27) ≤ 32 → (IntKind.u32.wrap (2 ^ (ji27).toNat)) = ji29 := fun hle_ => by have h_ := hji29z hle_; rw [Int.one_mul] at h_; exact h_
           obtain ⟨y418,hy418⟩ : ∃ y_ : List Int,y_ = (x7_1.set ((ji24) : Int).toNat (Go.bits .or .u32 (rd x7_1 (ji24)) (ji29))) := ⟨_,rfl⟩
           rw [← hy418] at H
           have Ny418 := Aside0.mk hy418
           clear hy418
           obtain ⟨t419,A310,H⟩ := bs H
           have A31 := Aside0.mk A310
           clear A310
           have H' := Aside0.mk H
           clear H
           obtain ⟨Ao32,co32,eo32⟩ := Kd.R_slice HO_5.out
           subst eo32
           obtain ⟨Ao33,co33,eo33⟩ := Kd.R_slice HO_8.out
           subst eo33
           go_wp2_with (first | ((with_reducible refine q0b (f := 100) rfl ?_); refine q0u (some 36) rfl rfl Tryz.func100 (by kernel_rfl) rfl #[.slice Ao32 x5_1.length co32,.slice Ao33 x8_1.length co33] rfl (ml) ?_; (with_reducible refine (q0n.calls k1 _ _ x5_1 _ _ x8_1 t413 _ ?side1 ?side2 ?side3 ?side4 A21.out).mono ?_); (case side1 => exact cr HO_5); (case side2 => exact (Kd.R_reads' HO_5.out).2.1); (case side3 => exact cr HO_8); (case side4 => exact (Kd.R_reads' HO_8.out).2.1); rintro e w34 ⟨rfl,hb⟩; refine ⟨_,rfl,?_⟩; replace HO_5 := Aside0.mk (Kd.R_below (rm HO_5) hb); replace HO_7 := Aside0.mk (Kd.R_below (rm HO_7) hb); replace HO_8 := Aside0.mk (Kd.R_below (rm HO_8) hb); replace BK397 := Aside0.mk (bb BK397 hb); replace HB := Aside0.mk (q0h (hb1 HB GE397) hb)) | ((with_reducible refine q0b (f := 101) rfl ?_); refine q0u (some 40) rfl rfl Tryz.func101 (by kernel_rfl) rfl #[.slice Ao32 x5_1.length co32,.slice Ao33 x8_1.length co33] rfl (ml) ?_; (with_reducible refine (q0l.calls k1 _ _ x5_1 _ _ x8_1 t414 _ ?side1 ?side2 ?side3 ?side4 A23.out).mono ?_); (case side1 => exact cr HO_5); (case side2 => exact (Kd.R_reads' HO_5.out).2.1); (case side3 => exact cr HO_8); (case side4 => exact (Kd.R_reads' HO_8.out).2.1); rintro e w35 ⟨v415,rfl,ho0,hb⟩; refine ⟨_,rfl,?_⟩; have HO416 := Aside0.mk (Kd.R_lower (Kd.R_new' (Kd.R_new' (Kd.R_new' ho0 (Kd.R_lt (rm HO_5))) (Kd.R_lt (rm HO_7))) (Kd.R_lt (rm HO_8))) (q0e (hb1 HB GE397))); replace HO_5 := Aside0.mk (Kd.R_elder' (rm HO_5) (Kd.R_base ho0) hb); replace HO_7 := Aside0.mk (Kd.R_elder' (rm HO_7) (Kd.R_base ho0) hb); replace HO_8 := Aside0.mk (Kd.R_elder' (rm HO_8) (Kd.R_base ho0) hb); replace BK397 := Aside0.mk (bb BK397 hb); replace HB := Aside0.mk (q0h (hb1 HB GE397) hb); obtain ⟨Ao36,co36,eo36⟩ := Kd.R_slice HO_7.out; subst eo36; have p417 : 0 ≤ ((ji24) : Int) := od; have q417 : (ji24) < (x7_1.length : Int) := od; obtain ⟨ad417,e417,hx417_0⟩ := Kd.at_int (Kd.R_reads' HO_7.out).2.2 (ji24) p417 q417; cases e417; replace p417 := eq_true p417; replace q417 := eq_true q417; have p30 : 0 ≤ ((ji24) : Int) := od; have q30 : ((ji24) : Int) < ((x7_1.length : Int) : Int) := od; obtain ⟨go30,co30,eo30,gb30,gl30,cl30,HG30⟩ := Kd.R_form HO_7.out (by omega); (cases eo30); have GB30 := Aside0.mk gb30; have GG30 := Aside0.mk HG30; clear gb30 gl30 HG30; (simp only [q5l] at hx417_0); obtain ⟨hx30_0,hf30_0⟩ := Kd.R_celln 0 HO_7.out ((ji24) : Int) p30 q30; replace p30 := eq_true p30; replace q30 := eq_true q30; have n_ := Aside0.mk (Kd.R_mono (ok' := (fun k_ => some k_ ≠ (.slice Ao32 x5_1.length co32 : Value).ownBlock ∧ some k_ ≠ (.slice Ao33 x8_1.length co33 : Value).ownBlock ∧ some k_ ≠ (v415 : Value).ownBlock)) HO_7.out (fun k_ hk => ⟨hk.1.1,⟨hk.1.2,hk.2⟩⟩)); clear HO_7; have HO_7 := n_; clear n_; obtain ⟨hy37_,hz37_⟩ := Kd.R_celln 0 HO_7.out ((ji24) : Int) (od) (od); have HP37 := Kd.R_putg HO_7.out ((ji24) : Int) (Go.bits .or .u32 (rd x7_1 (ji24)) (ji29))) | ((with_reducible refine q5c (t := 88) (p := 51) rfl ?_); refine q4m (t := 88) (p := 51) (v := ?vo_w38) (w1 := (w35.setCell ⟨go30,((ji24) : Int).toNat,none⟩ (.int .u32 (Go.bits .or .u32 (rd x7_1 (ji24)) (ji29))))) ?hg ?ho ?hn ?hr ?_; (case ho => rfl); (case hg => rfl); (case hn => rfl); (case hr => (go_simp; done)); intro w38 hw; have hg : w35.grownBy w38 (some go30) := (by rw [hw]; exact HP37.2); have hp_ : Kd.R (Kd.int .u32) 88 w38 w.heap.size (fun k_ => some k_ ≠ (.slice Ao32 x5_1.length co32 : Value).ownBlock ∧ some k_ ≠ (.slice Ao33 x8_1.length co33 : Value).ownBlock ∧ some k_ ≠ (v415 : Value).ownBlock) (.slice (some ⟨go30,0,none⟩) x7_1.length co36) y418 := (by rw [hw,Ny418.out]; exact HP37.1); clear HP37; replace HO_5 := Aside0.mk (Kd.R_after (v := (.slice (some ⟨go30,0,none⟩) x7_1.length co36)) (v1 := (.slice (some ⟨go30,0,none⟩) x7_1.length co36)) (ok := (fun k_ => some k_ ≠ (.slice Ao33 x8_1.length co33 : Value).ownBlock ∧ some k_ ≠ (v415 : Value).ownBlock)) (by (with_reducible repeat (apply Kd.R_drew)); exact Kd.R_mono HO_5.out (fun _ hk => ⟨⟨hk.1.2,hk.2⟩,hk.1.1⟩)) hg (.inl rfl)); replace HO_8 := Aside0.mk (Kd.R_after (v := (.slice (some ⟨go30,0,none⟩) x7_1.length co36)) (v1 := (.slice (some ⟨go30,0,none⟩) x7_1.length co36)) (ok := (fun k_ => some k_ ≠ (.slice Ao32 x5_1.length co32 : Value).ownBlock ∧ some k_ ≠ (v415 : Value).ownBlock)) (by (with_reducible repeat (apply Kd.R_drew)); exact Kd.R_mono HO_8.out (fun _ hk => ⟨⟨hk.1.1,hk.2⟩,hk.1.2⟩)) hg (.inl rfl)); replace BK397 := Aside0.mk (bg BK397 hg (Kd.R_ne HO_7.out BK397.out (by decide))); replace HO_7 := Aside0.mk (hp_); replace HO416 := Aside0.mk (Kd.R_after (v := (.slice (some ⟨go30,0,none⟩) x7_1.length co36)) (v1 := (.slice (some ⟨go30,0,none⟩) x7_1.length co36)) (ok := (fun k_ => some k_ ≠ (.slice Ao32 x5_1.length co32 : Value).ownBlock ∧ some k_ ≠ (.slice Ao33 x8_1.length co33 : Value).ownBlock)) (by (with_reducible repeat (apply Kd.R_drew)); exact Kd.R_mono HO416.out (fun _ hk => ⟨⟨hk.1.1.2,hk.2⟩,hk.1.2⟩)) hg (.inl rfl)); replace HB := Aside0.mk ((by rw [hw]; exact q2s (HB.out) GB30.out : Below w.heap.size w w38)); clear hg hw hp_) | ((with_reducible refine q0b (f := 128) rfl ?_); refine q0u (some 53) rfl rfl Tryz.func128 (by kernel_rfl) rfl #[.slice Ao33 x8_1.length co33,.int .i64 1] rfl (ml) ?_; (with_reducible refine (q0j.calls k1 _ _ x8_1 1 t419 _ ?side1 ?side2 A31.out).mono ?_); (case side1 => exact cr HO_8); (case side2 => exact (Kd.R_reads' HO_8.out).2.1); rintro e w39 ⟨v420,rfl,ho0,hb⟩; refine ⟨_,rfl,?_⟩; have HO421 := Aside0.mk (Kd.R_lower (Kd.R_new' (Kd.R_new' (Kd.R_new' (Kd.R_new' ho0 (Kd.R_lt (rm HO_5))) (Kd.R_lt (rm HO_7))) (Kd.R_lt (rm HO_8))) (Kd.R_lt (rm HO416))) (q0e (hb1 HB GE397))); replace HO_5 := Aside0.mk (Kd.R_elder' (rm HO_5) (Kd.R_base ho0) hb); replace HO_7 := Aside0.mk (Kd.R_elder' (rm HO_7) (Kd.R_base ho0) hb); replace HO_8 := Aside0.mk (Kd.R_elder' (rm HO_8) (Kd.R_base ho0) hb); replace HO416 := Aside0.mk (Kd.R_elder' (rm HO416) (Kd.R_base ho0) hb); replace BK397 := Aside0.mk (bb BK397 hb); replace HB := Aside0.mk (q0h (hb1 HB GE397) hb)))
           go_roundg k1
           case measure => have := HK1.out; omega
           case rel => exact ⟨(t414),(y418),(t419),(wrap64 (x9_1 - 1)),(by rfl),H',⟨by have := HK1.out; omega⟩,⟨by (with_reducible repeat (apply Kd.R_drew)); exact Kd.R_mono HO416.out (fun _ hk => ⟨hk.1.2,hk.2⟩)⟩,⟨by (with_reducible repeat (apply Kd.R_drew)); exact Kd.R_mono HO_7.out (fun _ hk => ⟨hk.1.2.2,hk.2⟩)⟩,⟨by (with_reducible repeat (apply Kd.R_drew)); exact Kd.R_mono HO421.out (fun _ hk => ⟨hk.2,hk.1.1.2⟩)⟩,⟨bm BK397⟩,⟨hb1 HB GE397⟩⟩
          ·rw [if_neg c28] at H
           cases H
         ·rw [if_neg c26] at H
          cases H
        ·rw [if_neg c25] at H
         cases H
       ·rw [if_neg c22] at H
        have c22b0 : decide (0 ≤ t413) = false := decide_eq_false c22
        clear c22
        obtain ⟨t422,A400,H⟩ := bs H
        have A40 := Aside0.mk A400
        clear A400
        have H' := Aside0.mk H
        clear H
        obtain ⟨Ao41,co41,eo41⟩ := Kd.R_slice HO_5.out
        subst eo41
        obtain ⟨Ao42,co42,eo42⟩ := Kd.R_slice HO_8.out
        subst eo42
        go_wp2_with (first | ((with_reducible refine q0b (f := 100) rfl ?_); refine q0u (some 36) rfl rfl Tryz.func100 (by kernel_rfl) rfl #[.slice Ao41 x5_1.length co41,.slice Ao42 x8_1.length co42] rfl (ml) ?_; (with_reducible refine (q0n.calls k1 _ _ x5_1 _ _ x8_1 t413 _ ?side1 ?side2 ?side3 ?side4 A21.out).mono ?_); (case side1 => exact cr HO_5); (case side2 => exact (Kd.R_reads' HO_5.out).2.1); (case side3 => exact cr HO_8); (case side4 => exact (Kd.R_reads' HO_8.out).2.1); rintro e w43 ⟨rfl,hb⟩; refine ⟨_,rfl,?_⟩; replace HO_5 := Aside0.mk (Kd.R_below (rm HO_5) hb); replace HO_7 := Aside0.mk (Kd.R_below (rm HO_7) hb); replace HO_8 := Aside0.mk (Kd.R_below (rm HO_8) hb); replace BK397 := Aside0.mk (bb BK397 hb); replace HB := Aside0.mk (q0h (hb1 HB GE397) hb)) | ((with_reducible refine q0b (f := 128) rfl ?_); refine q0u (some 53) rfl rfl Tryz.func128 (by kernel_rfl) rfl #[.slice Ao42 x8_1.length co42,.int .i64 1] rfl (ml) ?_; (with_reducible refine (q0j.calls k1 _ _ x8_1 1 t422 _ ?side1 ?side2 A40.out).mono ?_); (case side1 => exact cr HO_8); (case side2 => exact (Kd.R_reads' HO_8.out).2.1); rintro e w44 ⟨v423,rfl,ho0,hb⟩; refine ⟨_,rfl,?_⟩; have HO424 := Aside0.mk (Kd.R_lower (Kd.R_new' (Kd.R_new' (Kd.R_new' ho0 (Kd.R_lt (rm HO_5))) (Kd.R_lt (rm HO_7))) (Kd.R_lt (rm HO_8))) (q0e (hb1 HB GE397))); replace HO_5 := Aside0.mk (Kd.R_elder' (rm HO_5) (Kd.R_base ho0) hb); replace HO_7 := Aside0.mk (Kd.R_elder' (rm HO_7) (Kd.R_base ho0) hb); replace HO_8 := Aside0.mk (Kd.R_elder' (rm HO_8) (Kd.R_base ho0) hb); replace BK397 := Aside0.mk (bb BK397 hb); replace HB := Aside0.mk (q0h (hb1 HB GE397) hb)))
        go_roundg k1
        case measure => have := HK1.out; omega
        case rel => exact ⟨(x5_1),(x7_1),(t422),(wrap64 (x9_1 - 1)),(by rfl),H',⟨by have := HK1.out; omega⟩,⟨by (with_reducible repeat (apply Kd.R_drew)); exact Kd.R_mono HO_5.out (fun _ hk => ⟨hk.1.1,hk.2⟩)⟩,⟨by (with_reducible repeat (apply Kd.R_drew)); exact Kd.R_mono HO_7.out (fun _ hk => ⟨hk.1.1,hk.2⟩)⟩,⟨by (with_reducible repeat (apply Kd.R_drew)); exact Kd.R_mono HO424.out (fun _ hk => ⟨hk.1.1.2,hk.1.2⟩)⟩,⟨bm BK397⟩,⟨hb1 HB GE397⟩⟩
      ·rw [if_neg c20] at H
       have c20b0 : decide (0 ≤ x9_1) = false := decide_eq_false c20
       clear c20
       obtain ⟨t410,A450,H⟩ := bs H
       have A45 := Aside0.mk A450
       clear A450
       simp only [Option.some.injEq,Prod.mk.injEq] at H
       obtain ⟨rfl,rfl,rfl⟩ := H
       obtain ⟨Ao46,co46,eo46⟩ := Kd.R_slice HO_7.out
       subst eo46
       go_wp2_with (((with_reducible refine q0b (f := 63) rfl ?_); refine q0u (some 55) rfl rfl Tryz.func63 (by kernel_rfl) rfl #[.slice Ao46 x7_1.length co46] rfl (ml) ?_; (with_reducible refine (q0a.calls k1 _ _ x7_1 t410 _ ?side1 ?side2 A45.out).mono ?_); (case side1 => exact cr HO_7); (case side2 => exact (Kd.R_reads' HO_7.out).2.1); rintro e w47 ⟨v411,rfl,ho0,hb⟩; refine ⟨_,rfl,?_⟩; have HO412 := Aside0.mk (Kd.R_lower (Kd.R_new' (Kd.R_new' (Kd.R_new' ho0 (Kd.R_lt (rm HO_5))) (Kd.R_lt (rm HO_7))) (Kd.R_lt (rm HO_8))) (q0e (hb1 HB GE397))); replace HO_5 := Aside0.mk (Kd.R_elder' (rm HO_5) (Kd.R_base ho0) hb); replace HO_7 := Aside0.mk (Kd.R_elder' (rm HO_7) (Kd.R_base ho0) hb); replace HO_8 := Aside0.mk (Kd.R_elder' (rm HO_8) (Kd.R_base ho0) hb); replace BK397 := Aside0.mk (bb BK397 hb); replace HB := Aside0.mk (q0h (hb1 HB GE397) hb); obtain ⟨Ao48,co48,eo48⟩ := Kd.R_slice HO_5.out; subst eo48; obtain ⟨Ao49,co49,eo49⟩ := Kd.R_slice HO412.out; subst eo49; have hcz50_0 := cz0 BK397; have hcz50_1 := cz1 BK397; have hcz50_2 := cz2 BK397; have hfz50_0 := q5d BK397.out 0; have hfz50_1 := q5d BK397.out 1; have hfz50_2 := q5d BK397.out 2))
       refine bodyPost_ret (results_cell_row rfl _ _ gb397 138 #[.slice Ao49 t410.length co49,.slice Ao48 x5_1.length co48,.bool true] (0,0) _ rfl (by (with_reducible repeat (refine q5h ?_)); refine qBo (cs := #[.slice Ao49 t410.length co49,.slice Ao48 x5_1.length co48,.bool false]) ?_ 2 _ rfl; (with_reducible repeat (refine q5h ?_)); refine qBo (cs := #[.slice Ao49 t410.length co49,.slice none 0 0,.bool false]) ?_ 1 _ rfl; (with_reducible repeat (refine q5h ?_)); refine qBo (cs := #[.slice none 0 0,.slice none 0 0,.bool false]) ?_ 0 _ rfl; (with_reducible repeat (refine q5h ?_)); exact BK397.out) Tryz.underlying138 rfl (by kernel_rfl)) rfl ?_
       exact ⟨_,_,by rfl,by (with_reducible repeat (apply Kd.R_drew)); exact Kd.R_mono (Kd.R_far (p := ⟨gb397,2,none⟩) (Kd.R_far (p := ⟨gb397,1,none⟩) (Kd.R_far (p := ⟨gb397,0,none⟩) (Kd.R_types HO412.out BK397.out (by decide)) (fun _ hk => hk.2) (.slice Ao49 t410.length co49)) (fun _ hk => hk.2) (.slice Ao48 x5_1.length co48)) (fun _ hk => hk.2) (.bool true)) (fun _ hk => hk.1.1.1.2),by (with_reducible repeat (apply Kd.R_drew)); exact Kd.R_mono (Kd.R_far (p := ⟨gb397,2,none⟩) (Kd.R_far (p := ⟨gb397,1,none⟩) (Kd.R_far (p := ⟨gb397,0,none⟩) (Kd.R_types HO_5.out BK397.out (by decide)) (fun _ hk => hk.2) (.slice Ao49 t410.length co49)) (fun _ hk => hk.2) (.slice Ao48 x5_1.length co48)) (fun _ hk => hk.2) (.bool true)) (fun _ hk => hk.1.2),hb1 HB GE397⟩
   ·rw [if_neg c13] at H
    cases H
  ·rw [if_neg c12] at H
   cases H
def q0o.l0 : Nat → List Int → List Int → Option (List Int)
 | 0,_,_ => none
 | k + 1,x5,x6 => if (x6.length : Int) > 0 then ((q0d.f k x5 x6).bind fun bt431 => (q0o.l0 k x6 bt431.2.1)) else (some x5)
def q0o.f (k : Nat) (l0 : List Int) (l1 : List Int) : Option (List Int) := (q0a.f k l0).bind fun t425 => ((q0a.f k l1).bind fun t428 => (q0o.l0 k t425 t428))
theorem q0o.calls (k : Nat) (A0 : Option Addr) (c0 : Nat) (l0 : List Int) (A1 : Option Addr) (c1 : Nat) (l1 : List Int) (r : List Int) (w : World) (hr0 : Kd.C (Kd.int .u32) w A0 l0.length l0) (hc0 : l0.length ≤ c0) (hr1 : Kd.C (Kd.int .u32) w A1 l1.length l1) (hc1 : l1.length ≤ c1) (h : q0o.f k l0 l1 = some r) :
  Calls Tryz.prog 81 #[.slice A0 l0.length c0,.slice A1 l1.length c1] w fun e w' => ∃ v0_ : Value,e = .returned (v0_) ∧ Kd.R (Kd.int .u32) 88 w' w.heap.size (fun _ => True) v0_ r ∧ Below w.heap.size w w' := by
 have hfld138_1 : ∀ (x0 x1 x2 : Value) (W : World),(Instr.field 138 (.agg #[x0,x1,x2]) 1).run Tryz.prog W = .ok (x1) W := by intro x0 x1 x2 W; kernel_rfl
 have hu138 := Tryz.underlying138
 have HR0 := Aside0.mk hr0
 have HC0 := Aside0.mk hc0
 clear hr0 hc0
 have HR1 := Aside0.mk hr1
 have HC1 := Aside0.mk hc1
 clear hr1 hc1
 have HB := Aside0.mk (Below.refl w.heap.size w)
 have H := h
 unfold q0o.f at H
 clear h
 obtain ⟨t425,A30,H⟩ := bs H
 have A3 := Aside0.mk A30
 clear A30
 obtain ⟨t428,A40,H⟩ := bs H
 have A4 := Aside0.mk A40
 clear A40
 have H' := Aside0.mk H
 clear H
 go_enter Tryz.func81,Tryz.ntmps81
 go_wp2_with (first | ((with_reducible refine q0b (f := 63) rfl ?_); refine q0u (some 8) rfl rfl Tryz.func63 (by kernel_rfl) rfl #[.slice A0 l0.length c0] rfl (ml) ?_; (with_reducible refine (q0a.calls k _ _ l0 t425 _ ?side1 ?side2 A3.out).mono ?_); (case side1 => repeat (exact HR0.out)); (case side2 => exact HC0.out); rintro e w5 ⟨v426,rfl,ho0,hb⟩; refine ⟨_,rfl,?_⟩; have HO427 := Aside0.mk (Kd.R_lower ho0 (q0e (hb0 HB))); replace HB := Aside0.mk (q0h (hb0 HB) hb)) | ((with_reducible refine q0b (f := 63) rfl ?_); refine q0u (some 10) rfl rfl Tryz.func63 (by kernel_rfl) rfl #[.slice A1 l1.length c1] rfl (ml) ?_; (with_reducible refine (q0a.calls k _ _ l1 t428 _ ?side1 ?side2 A4.out).mono ?_); (case side1 => exact cb HR1 HB); (case side2 => exact HC1.out); rintro e w6 ⟨v429,rfl,ho0,hb⟩; refine ⟨_,rfl,?_⟩; have HO430 := Aside0.mk (Kd.R_lower (Kd.R_new' ho0 (Kd.R_lt (rm HO427))) (q0e (hb0 HB))); replace HO427 := Aside0.mk (Kd.R_elder' (rm HO427) (Kd.R_base ho0) hb); replace HB := Aside0.mk (q0h (hb0 HB) hb)))
 go_loopg [5,6] k (fun kq v5 v6 w' => ∃ (x5_1 : List Int) (x6_1 : List Int),Aside0 (q0o.l0 kq x5_1 x6_1 = some r) ∧ Aside0 (kq ≤ k) ∧ Aside0 (Kd.R (Kd.int .u32) 88 w' w.heap.size (fun k_ => some k_ ≠ (v6 : Value).ownBlock) v5 x5_1) ∧ Aside0 (Kd.R (Kd.int .u32) 88 w' w.heap.size (fun k_ => some k_ ≠ (v5 : Value).ownBlock) v6 x6_1) ∧ Aside0 (Below w.heap.size w w'))
 case atStart => exact ⟨(t425),(t428),H',⟨Nat.le_refl _⟩,⟨by (with_reducible repeat (apply Kd.R_drew)); exact Kd.R_mono HO427.out (fun _ hk => hk.2)⟩,⟨by (with_reducible repeat (apply Kd.R_drew)); exact Kd.R_mono HO430.out (fun _ hk => hk.2)⟩,⟨hb0 HB⟩⟩
 case round =>
  clear H'
  obtain ⟨x5_1,x6_1,HA,HK1,HO_5,HO_6,HB⟩ := hrel
  cases gk with
  | zero => exact absurd HA.out (by simp [q0o.l0])
  | succ k1 =>
   have H := HA.out
   clear HA
   simp only [q0o.l0] at H
   by_cases c7 : (x6_1.length : Int) > 0
   ·rw [if_pos c7] at H
    have c7b0 : decide (0 < (x6_1.length : Int)) = true := decide_eq_true c7
    have c7b1 : decide (0 < x6_1.length) = true := decide_eq_true (by omega)
    replace H := Option.bind_eq_some_iff.mp H
    obtain ⟨⟨t431,t434,t437⟩,A80,H⟩ := H
    replace H : (q0o.l0 k1 x6_1 t434) = some r := H
    have A8 := Aside0.mk A80
    clear A80
    have H' := Aside0.mk H
    clear H
    obtain ⟨Ao9,co9,eo9⟩ := Kd.R_slice HO_6.out
    subst eo9
    obtain ⟨Ao10,co10,eo10⟩ := Kd.R_slice HO_5.out
    subst eo10
    go_wp2_with (((with_reducible refine q0b (f := 98) rfl ?_); refine q0u (some 17) rfl rfl Tryz.func98 (by kernel_rfl) rfl #[.slice Ao10 x5_1.length co10,.slice Ao9 x6_1.length co9] rfl (ml) ?_; (with_reducible refine (q0d.calls k1 _ _ x5_1 _ _ x6_1 t431 t434 t437 _ ?side1 ?side2 ?side3 ?side4 A8.out).mono ?_); (case side1 => exact cr HO_5); (case side2 => exact (Kd.R_reads' HO_5.out).2.1); (case side3 => exact cr HO_6); (case side4 => exact (Kd.R_reads' HO_6.out).2.1); rintro e w11 ⟨v432,v435,rfl,ho0,ho1,hb⟩; refine ⟨_,rfl,?_⟩; have HO433 := Aside0.mk (Kd.R_lower (Kd.R_new' (Kd.R_new' ho0 (Kd.R_lt (rm HO_5))) (Kd.R_lt (rm HO_6))) (q0e (hb0 HB))); have HO436 := Aside0.mk (Kd.R_lower (Kd.R_new' (Kd.R_new' ho1 (Kd.R_lt (rm HO_5))) (Kd.R_lt (rm HO_6))) (q0e (hb0 HB))); replace HO_5 := Aside0.mk (Kd.R_mono (Kd.R_told (Kd.R_told (Kd.R_old (rm HO_5) hb) (Kd.R_base ho0)) (Kd.R_base ho1)) (fun _ h_ => h_.1)); replace HO_6 := Aside0.mk (Kd.R_mono (Kd.R_told (Kd.R_told (Kd.R_old (rm HO_6) hb) (Kd.R_base ho0)) (Kd.R_base ho1)) (fun _ h_ => h_.1)); replace HB := Aside0.mk (q0h (hb0 HB) hb)))
    go_roundg k1
    case measure => have := HK1.out; omega
    case rel => exact ⟨(x6_1),(t434),H',⟨by have := HK1.out; omega⟩,⟨by (with_reducible repeat (apply Kd.R_drew)); exact Kd.R_mono HO_6.out (fun _ hk => hk.2)⟩,⟨by (with_reducible repeat (apply Kd.R_drew)); exact Kd.R_mono HO436.out (fun _ hk => hk.2)⟩,⟨hb0 HB⟩⟩
   ·rw [if_neg c7] at H
    have c7b0 : decide (0 < (x6_1.length : Int)) = false := decide_eq_false c7
    have c7b1 : decide (0 < x6_1.length) = false := decide_eq_false (by omega)
    obtain rfl := Option.some.inj H
    obtain ⟨Ao12,co12,eo12⟩ := Kd.R_slice HO_6.out
    subst eo12
    go_wp2
    go_ret
    exact ⟨_,by rfl,by (with_reducible repeat (apply Kd.R_drew)); exact Kd.R_mono HO_5.out (fun _ hk => trivial),hb0 HB⟩
def q0p.l0 : Nat → List Int → List Int → Int → Option (Bool)
 | 0,_,_,_ => none
 | k + 1,x0,x1,x5 => if x5 < (x0.length : Int) then (if 0 ≤ x5 then (if x5 < (x1.length : Int) then (if (rd x0 x5) = (rd x1 x5) then (q0p.l0 k x0 x1 (wrap64 (x5 + 1))) else (some false)) else (none)) else (none)) else (some true)
def q0p.f (k : Nat) (l0 : List Int) (l1 : List Int) : Option (Bool) := if (l0.length : Int) = (l1.length : Int) then (q0p.l0 k l0 l1 0) else (some false)
theorem q0p.calls (k : Nat) (A0 : Option Addr) (c0 : Nat) (l0 : List Int) (A1 : Option Addr) (c1 : Nat) (l1 : List Int) (r : Bool) (w : World) (hr0 : Kd.C (Kd.int .u32) w A0 l0.length l0) (hc0 : l0.length ≤ c0) (hr1 : Kd.C (Kd.int .u32) w A1 l1.length l1) (hc1 : l1.length ≤ c1) (h : q0p.f k l0 l1 = some r) :
  Calls Tryz.prog 55 #[.slice A0 l0.length c0,.slice A1 l1.length c1] w fun e w' => e = .returned (.bool r) ∧ q0s w w' := by
 have HR0 := Aside0.mk hr0
 have HC0 := Aside0.mk hc0
 clear hr0 hc0
 have HR1 := Aside0.mk hr1
 have HC1 := Aside0.mk hc1
 clear hr1 hc1
 have H := h
 unfold q0p.f at H
 clear h
 by_cases c3 : (l0.length : Int) = (l1.length : Int)
 ·rw [if_pos c3] at H
  have c3b0 : ((l0.length : Int) == (l1.length : Int)) = true := beq_iff_eq.mpr c3
  have c3b1 : ((l0.length : Int) != (l1.length : Int)) = false := bne_eq_false_iff_eq.mpr c3
  have c3b2 : (l0.length == l1.length) = true := by (simp at c3 ⊢; omega)
  have H' := Aside0.mk H
  clear H
  go_enter Tryz.func55,Tryz.ntmps55
  go_wp2
  repeat (go_quiet (fail); try go_wp2)
  go_loopg [5] k (fun kq v5 w' => ∃ (x5_1 : Int),v5 = .int .i64 x5_1 ∧ Aside0 (q0p.l0 kq l0 l1 x5_1 = some r) ∧ Aside0 (kq ≤ k) ∧ q0s w w')
  case atStart => exact ⟨(0),(by rfl),H',⟨Nat.le_refl _⟩,by repeat (exact q0s.refl _)⟩
  case round =>
   clear H'
   obtain ⟨x5_1,rfl,HA,HK1,⟨m1,rfl⟩⟩ := hrel
   cases gk with
   | zero => exact absurd HA.out (by simp [q0p.l0])
   | succ k1 =>
    have H := HA.out
    clear HA
    simp only [q0p.l0] at H
    by_cases c4 : x5_1 < (l0.length : Int)
    ·rw [if_pos c4] at H
     have c4b0 : decide (x5_1 < (l0.length : Int)) = true := decide_eq_true c4
     by_cases c5 : 0 ≤ x5_1
     ·rw [if_pos c5] at H
      have c5b0 : decide (0 ≤ x5_1) = true := decide_eq_true c5
      by_cases c6 : x5_1 < (l1.length : Int)
      ·rw [if_pos c6] at H
       have c6b0 : decide (x5_1 < (l1.length : Int)) = true := decide_eq_true c6
       by_cases c7 : (rd l0 x5_1) = (rd l1 x5_1)
       ·rw [if_pos c7] at H
        have c7b0 : ((rd l0 x5_1) == (rd l1 x5_1)) = true := beq_iff_eq.mpr c7
        have c7b1 : ((rd l0 x5_1) != (rd l1 x5_1)) = false := bne_eq_false_iff_eq.mpr c7
        have H' := Aside0.mk H
        clear H
        have p438 : 0 ≤ (x5_1 : Int) := od
        have q438 : x5_1 < (l0.length : Int) := od
        obtain ⟨ad438,e438,hx438_0⟩ := Kd.at_int HR0.out x5_1 p438 q438
        cases e438
        replace p438 := eq_true p438
        replace q438 := eq_true q438
        have p439 : 0 ≤ (x5_1 : Int) := od
        have q439 : x5_1 < (l1.length : Int) := od
        obtain ⟨ad439,e439,hx439_0⟩ := Kd.at_int HR1.out x5_1 p439 q439
        cases e439
        replace p439 := eq_true p439
        replace q439 := eq_true q439
        go_wp2
        repeat (go_quiet (fail); try go_wp2)
        go_roundg k1
        case measure => have := HK1.out; omega
        case rel => exact ⟨(wrap64 (x5_1 + 1)),(by rfl),H',⟨by have := HK1.out; omega⟩,by repeat (first | exact q0s.refl _ | apply q0s.step)⟩
       ·rw [if_neg c7] at H
        have c7b0 : ((rd l0 x5_1) == (rd l1 x5_1)) = false := beq_eq_false_iff_ne.mpr c7
        have c7b1 : ((rd l0 x5_1) != (rd l1 x5_1)) = true := bne_iff_ne.mpr c7
        obtain rfl := Option.some.inj H
        have p438 : 0 ≤ (x5_1 : Int) := od
        have q438 : x5_1 < (l0.length : Int) := od
        obtain ⟨ad438,e438,hx438_0⟩ := Kd.at_int HR0.out x5_1 p438 q438
        cases e438
        replace p438 := eq_true p438
        replace q438 := eq_true q438
        have p439 : 0 ≤ (x5_1 : Int) := od
        have q439 : x5_1 < (l1.length : Int) := od
        obtain ⟨ad439,e439,hx439_0⟩ := Kd.at_int HR1.out x5_1 p439 q439
        cases e439
        replace p439 := eq_true p439
        replace q439 := eq_true q439
        go_wp2
        repeat (go_quiet (fail); try go_wp2)
        go_ret
        exact ⟨by rfl,by repeat (first | exact q0s.refl _ | apply q0s.step)⟩
      ·rw [if_neg c6] at H
       cases H
     ·rw [if_neg c5] at H
      cases H
    ·rw [if_neg c4] at H
     have c4b0 : decide (x5_1 < (l0.length : Int)) = false := decide_eq_false c4
     obtain rfl := Option.some.inj H
     go_wp2
     repeat (go_quiet (fail); try go_wp2)
     go_ret
     exact ⟨by rfl,by repeat (first | exact q0s.refl _ | apply q0s.step)⟩
 ·rw [if_neg c3] at H
  have c3b0 : ((l0.length : Int) == (l1.length : Int)) = false := beq_eq_false_iff_ne.mpr c3
  have c3b1 : ((l0.length : Int) != (l1.length : Int)) = true := bne_iff_ne.mpr c3
  have c3b2 : (l0.length == l1.length) = false := by (simp at c3 ⊢; omega)
  obtain rfl := Option.some.inj H
  go_enter Tryz.func55,Tryz.ntmps55
  go_wp2
  repeat (go_quiet (fail); try go_wp2)
  go_ret
  exact ⟨by rfl,by repeat (exact q0s.refl _)⟩
def q0z.f (l0 : List Int) : Option (Bool) := if (l0.length : Int) = 0 then (some true) else (if 0 ≤ (wrap64 ((l0.length : Int) - 1)) then (if (wrap64 ((l0.length : Int) - 1)) < (l0.length : Int) then (some ((rd l0 (wrap64 ((l0.length : Int) - 1))) != 0)) else (none)) else (none))
theorem q0z.calls (A0 : Option Addr) (c0 : Nat) (l0 : List Int) (r : Bool) (w : World) (hr0 : Kd.C (Kd.int .u32) w A0 l0.length l0) (hc0 : l0.length ≤ c0) (h : q0z.f l0 = some r) :
  Calls Tryz.prog 80 #[.slice A0 l0.length c0] w fun e w' => e = .returned (.bool r) ∧ q0s w w' := by
 have HR0 := Aside0.mk hr0
 have HC0 := Aside0.mk hc0
 clear hr0 hc0
 have H := h
 unfold q0z.f at H
 clear h
 by_cases c2 : (l0.length : Int) = 0
 ·rw [if_pos c2] at H
  have c2b0 : ((l0.length : Int) == 0) = true := beq_iff_eq.mpr c2
  have c2b1 : ((l0.length : Int) != 0) = false := bne_eq_false_iff_eq.mpr c2
  obtain rfl := Option.some.inj H
  go_enter Tryz.func80,Tryz.ntmps80
  go_wp2
  go_ret
  exact ⟨by rfl,by repeat (exact q0s.refl _)⟩
 ·rw [if_neg c2] at H
  have c2b0 : ((l0.length : Int) == 0) = false := beq_eq_false_iff_ne.mpr c2
  have c2b1 : ((l0.length : Int) != 0) = true := bne_iff_ne.mpr c2
  have c2b2 : ¬ (l0 = []) := fun h_ => c2 (by rw [h_]; rfl)
  obtain ⟨ji3,hji3⟩ : ∃ j_ : Int,(wrap64 ((l0.length : Int) - 1)) = j_ := ⟨_,rfl⟩
  rw [hji3] at H
  have hji3w : (IntKind.i64.wrap ((l0.length : Int) - 1)) = ji3 := (q4i _).trans hji3
  by_cases c4 : 0 ≤ (ji3)
  ·rw [if_pos c4] at H
   have c4b0 : decide (0 ≤ (ji3)) = true := decide_eq_true c4
   by_cases c5 : (ji3) < (l0.length : Int)
   ·rw [if_pos c5] at H
    have c5b0 : decide ((ji3) < (l0.length : Int)) = true := decide_eq_true c5
    obtain rfl := Option.some.inj H
    have p446 : 0 ≤ ((ji3) : Int) := od
    have q446 : (ji3) < (l0.length : Int) := od
    obtain ⟨ad446,e446,hx446_0⟩ := Kd.at_int HR0.out (ji3) p446 q446
    cases e446
    replace p446 := eq_true p446
    replace q446 := eq_true q446
    go_enter Tryz.func80,Tryz.ntmps80
    go_wp2
    go_ret
    exact ⟨by rfl,by repeat (exact q0s.refl _)⟩
   ·rw [if_neg c5] at H
    cases H
  ·rw [if_neg c4] at H
   cases H
def q2m.f (l0 : List Int) : Option (Bool) := if (l0.length : Int) = 0 then (some true) else (if 0 ≤ (wrap64 ((l0.length : Int) - 1)) then (if (wrap64 ((l0.length : Int) - 1)) < (l0.length : Int) then (some ((rd l0 (wrap64 ((l0.length : Int) - 1))) != 0)) else (none)) else (none))
theorem q2m.calls (A0 : Option Addr) (c0 : Nat) (l0 : List Int) (r : Bool) (w : World) (hr0 : Kd.C (Kd.int .u32) w A0 l0.length l0) (hc0 : l0.length ≤ c0) (h : q2m.f l0 = some r) :
  Calls Tryz.prog 115 #[.slice A0 l0.length c0] w fun e w' => e = .returned (.bool r) ∧ q0s w w' := by
 have HR0 := Aside0.mk hr0
 have HC0 := Aside0.mk hc0
 clear hr0 hc0
 have H := h
 unfold q2m.f at H
 clear h
 by_cases c2 : (l0.length : Int) = 0
 ·rw [if_pos c2] at H
  have c2b0 : ((l0.length : Int) == 0) = true := beq_iff_eq.mpr c2
  have c2b1 : ((l0.length : Int) != 0) = false := bne_eq_false_iff_eq.mpr c2
  obtain rfl := Option.some.inj H
  go_enter Tryz.func115,Tryz.ntmps115
  go_wp2
  go_ret
  exact ⟨by rfl,by repeat (exact q0s.refl _)⟩
 ·rw [if_neg c2] at H
  have c2b0 : ((l0.length : Int) == 0) = false := beq_eq_false_iff_ne.mpr c2
  have c2b1 : ((l0.length : Int) != 0) = true := bne_iff_ne.mpr c2
  have c2b2 : ¬ (l0 = []) := fun h_ => c2 (by rw [h_]; rfl)
  obtain ⟨ji3,hji3⟩ : ∃ j_ : Int,(wrap64 ((l0.length : Int) - 1)) = j_ := ⟨_,rfl⟩
  rw [hji3] at H
  have hji3w : (IntKind.i64.wrap ((l0.length : Int) - 1)) = ji3 := (q4i _).trans hji3
  by_cases c4 : 0 ≤ (ji3)
  ·rw [if_pos c4] at H
   have c4b0 : decide (0 ≤ (ji3)) = true := decide_eq_true c4
   by_cases c5 : (ji3) < (l0.length : Int)
   ·rw [if_pos c5] at H
    have c5b0 : decide ((ji3) < (l0.length : Int)) = true := decide_eq_true c5
    obtain rfl := Option.some.inj H
    have p447 : 0 ≤ ((ji3) : Int) := od
    have q447 : (ji3) < (l0.length : Int) := od
    obtain ⟨ad447,e447,hx447_0⟩ := Kd.at_int HR0.out (ji3) p447 q447
    cases e447
    replace p447 := eq_true p447
    replace q447 := eq_true q447
    go_enter Tryz.func115,Tryz.ntmps115
    go_wp2
    go_ret
    exact ⟨by rfl,by repeat (exact q0s.refl _)⟩
   ·rw [if_neg c5] at H
    cases H
  ·rw [if_neg c4] at H
   cases H
def q1t.f (a0 : Int) (a1 : Int) : Option (Bool) := if a0 ≥ (wrap64 (-a1)) then (some (decide (a0 ≤ a1))) else (some false)
theorem q1t.calls (a0 : Int) (a1 : Int) (r : Bool) (w : World) (h : q1t.f a0 a1 = some r) :
  Calls Tryz.prog 124 #[.int .i64 a0,.int .i64 a1] w fun e w' => e = .returned (.bool r) ∧ q0s w w' := by
 have H := h
 unfold q1t.f at H
 clear h
 by_cases c3 : a0 ≥ (wrap64 (-a1))
 ·rw [if_pos c3] at H
  have c3b0 : decide ((wrap64 (-a1)) ≤ a0) = true := decide_eq_true c3
  obtain rfl := Option.some.inj H
  go_enter Tryz.func124,Tryz.ntmps124
  go_wp2
  go_ret
  exact ⟨by rfl,by repeat (exact q0s.refl _)⟩
 ·rw [if_neg c3] at H
  have c3b0 : decide ((wrap64 (-a1)) ≤ a0) = false := decide_eq_false c3
  obtain rfl := Option.some.inj H
  go_enter Tryz.func124,Tryz.ntmps124
  go_wp2
  go_ret
  exact ⟨by rfl,by repeat (exact q0s.refl _)⟩
end Go.Proofs.YtjkcmnedolfkjaaGreat.PL
end
