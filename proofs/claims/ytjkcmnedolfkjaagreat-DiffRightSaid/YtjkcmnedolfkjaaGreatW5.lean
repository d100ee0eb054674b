/- Part 5 of the proof. -/
import Derived.Test.YtjkcmnedolfkjaaGreatProg
import Derived.Laws.Tables
import Derived.Orders
import Derived.Below
import Derived.Deep.Draws
import Derived.Deep.AppendLies
import Derived.Maps.AppendAt
import Derived.OwnWalk
import Derived.Laws.BytesArg
import Derived.Laws.MakeOwn
import Derived.Laws.OwnMore
import Derived.Deep.OwnRows
import Derived.Tactics
import Derived.Lib.ConvBytes
import Derived.Laws.Slices
import Derived.WalkKit
import Derived.KernelRfl
import Derived.RowKit3
import Derived.Deep.LoopGhost
import Derived.Deep.QuietTactic
import Derived.BigQuiet
import Derived.WideLaws
import Derived.Deep.DeepCutAuto
import Derived.Deep.CutBlock
import Derived.Deep.RegionHeld3
import Derived.Laws.Rows
import Derived.Lib.AppendStr
import Derived.ArgAppend
import Derived.Laws.IdiomCopy
import Derived.RowKit
import Derived.OrdersHeld
import Derived.Laws.BitsLemmas
import Derived.Laws.Cells
import Derived.Great.BuildSlice
import Derived.Deep.Slices
import Derived.Laws.AppendOwn
import Derived.Laws.LoneSync
import Derived.LoopN
import Derived.Laws.StructEq
import Derived.Test.YtjkcmnedolfkjaaGreatW4
set_option linter.unusedVariables false
set_option linter.unusedSimpArgs false
section
set_option linter.unusedVariables false
set_option linter.unusedSimpArgs false
namespace Go.Proofs.YtjkcmnedolfkjaaGreat.Rd
open Go Go.RowKit Go.Proofs.YtjkcmnedolfkjaaGreatW.PrintWords Go.Proofs.YtjkcmnedolfkjaaGreatW.PrintMore
def qZz : List (TypeId × Ty) :=    [(2, { zero := [.v (.int .i64 0)], int := some .i64 }),
 (3,{ zero := [.v (.int .i64 0)],int := some .i64 }),
 (4,{ zero := [.v (.bool false)],bool := true }),
 (5,{ zero := [.v (.int .u8 0)],int := some .u8 }),
 (21,{ zero := [.v (.int .i32 0)],int := some .i32 }),
 (23,{ zero := [q9j],elem := [.v (.int .i64 0),.v (.int .i64 0),.v (.int .i64 0),.v (.int .i64 0),.v (.bool false),.l [],.l []],sref := true }),
 (27,{ zero := [.v (.int .i64 0)],int := some .i64 }),
 (31,{ zero := [q9j,.v (.int .i64 0),.v (.int .i64 0)],agg := true,fields := [(0,1,false),(1,1,false),(2,1,false)] }),
 (35,{ zero := [q9j],elem := [.v (.bool false)],sref := true }),
 (38,{ zero := [q9j],elem := [.v (.bool false),.l [],.l []],sref := true }),
 (43,{ zero := [.l []],elem := [.v (.int .u32 0)],limbs := true,sref := true }),
 (45,{ zero := [.v (.bool false),.l []],agg := true,fields := [(0,1,false),(1,1,false)] }),
 (47,{ zero := [.v (.bool false),.l [],.l []],agg := true,fields := [(0,2,true),(2,1,false)] }),
 (49,{ zero := [.v (.int .i64 0),.v (.int .i64 0),.v (.int .i64 0),.v (.int .i64 0),.v (.bool false),.l [],.l []],agg := true,fields := [(0,1,false),(1,1,false),(2,1,false),(3,1,false),(4,3,true)] }),
 (51,{ zero := [.v (.bool false),.l [],.l [],.v (.int .i64 0)],agg := true,fields := [(0,3,true),(3,1,false)] }),
 (56,{ zero := [.v (.bool false),.l [],.l [],.v (.bool false),.l [],.l [],.v (.int .i64 0)],agg := true,fields := [(0,3,true),(3,3,true),(6,1,false)] }),
 (61,{ zero := [.v (.int .u8 0),.v (.int .u8 0)],agg := true,elem := [.v (.int .u8 0)],alen := 2 }),
 (64,{ zero := [.v (.int .u8 0),.v (.int .u8 0),.v (.int .u8 0)],agg := true,elem := [.v (.int .u8 0)],alen := 3 }),
 (74,{ zero := [q9j],elem := [.v (.int .i64 0)],sref := true }),
 (76,{ zero := [q9j,q9j,q9j,.v (.bool false)],agg := true,fields := [(0,1,false),(1,1,false),(2,1,false),(3,1,false)] }),
 (81,{ zero := [q9j,.v (.bool false)],agg := true,fields := [(0,1,false),(1,1,false)] }),
 (84,{ zero := [.v (.pointer none)],pref := true }),
 (88,{ zero := [.v (.int .u32 0)],int := some .u32 }),
 (90,{ zero := [.v (.int .u32 0)],agg := true,fields := [(0,0,true),(0,1,false)] }),
 (92,{ zero := [.v (.int .i32 0),.v (.int .u32 0)],agg := true,fields := [(0,1,false),(1,1,false)],flat := true }),
 (94,{ zero := [.v (.int .i32 0),.v (.int .u32 0)],agg := true,fields := [(0,0,true),(0,2,true)] }),
 (96,{ zero := [.v (.int .u32 0),.v (.int .i32 0),.v (.int .u32 0)],agg := true,fields := [(0,0,true),(0,1,true),(1,2,true)] }),
 (98,{ zero := [.v (.int .u32 0),.v (.int .i32 0),.v (.int .u32 0),q9j],agg := true,fields := [(0,3,true),(3,1,false)] }),
 (106,{ zero := [.v (.int .i64 0)],agg := true,fields := [(0,0,true),(0,0,true),(0,1,false)] }),
 (108,{ zero := [q9j,q9j,q9j,q9j,.v (.int .i64 0)],agg := true,fields := [(0,1,false),(1,1,false),(2,1,false),(3,1,false),(4,1,true)] }),
 (111,{ zero := [q9j],elem := [.v (.bool false),.l [],.l [],.v (.bool false),.l [],.l [],.v (.int .i64 0)],sref := true }),
 (138,{ zero := [.l [],.l [],.v (.bool false)],agg := true,fields := [(0,1,false),(1,1,false),(2,1,false)] }),
 (146,{ zero := [.v (.int .u64 0)],int := some .u64 }),
 (156,{ zero := [.v (.int .u64 0)],int := some .u64 }),
 (159,{ zero := [.v (.int .i64 0),.v (.int .i64 0),.v (.int .i64 0),.v (.int .i64 0)],agg := true,fields := [(0,1,false),(1,1,false),(2,1,false),(3,1,false)],flat := true }),
 (180, { zero := [.v (.pointer none)], pref := true })]
def qM : List (Nat × Ext) := [(118,.add64),(94,.load64)]
def tab (ent : List FuncId) : Tab := { ty := fun t => q9c t qZz,ext := fun f => q9c f qM,ent := ent }
theorem qDb {α : Type} {t : Nat} {ty : α} : ∀ {l : List (Nat × α)},q9c t l = some ty → (t,ty) ∈ l
 | [],h => by cases h
 | (s,ty') :: rest,h => by
  unfold q9c at h
  split at h
  ·rename_i e
   subst e
   injection h with h
   subst h
   simp
  ·exact List.mem_cons_of_mem _ (qDb h)
theorem qKx (ent : List FuncId) : q4w Tryz.prog (tab ent) := fun t ty h =>
 tyB_ok (List.all_eq_true.1 (show (qZz.all fun e => tyB Tryz.prog e.1 e.2) = true by kernel_rfl) (t,ty) (qDb h))
theorem qDc (ent : List FuncId) : qHg Tryz.prog (tab ent) := fun f e h => by
 have hm := qDb (l := qM) h
 simp only [qM,List.mem_cons,List.not_mem_nil,or_false,Prod.mk.injEq] at hm
 rcases hm with ⟨rfl,rfl⟩ | ⟨rfl,rfl⟩
 ·exact ⟨Tryz.f118,Tryz.func118,by kernel_rfl,by kernel_rfl,by kernel_rfl,by kernel_rfl⟩
 ·exact ⟨Tryz.f94,Tryz.func94,by kernel_rfl,by kernel_rfl,by kernel_rfl,by kernel_rfl⟩
theorem mixed : Tryz.prog.follows .mixedOrders = true := by kernel_rfl
def orc : List (Nat × (List U → U → Prop)) → Orc
 | [],_,_,_ => False
 | (g,R) :: l,f,us,u => (f = g ∧ R us u) ∨ orc l f us u
theorem q0v {P : Program} : ∀ f,q0w P f (orc [] f) := fun _ _ _ h => h.elim
theorem q0c {P : Program} {g : Nat} {R : List U → U → Prop} {l : List (Nat × (List U → U → Prop))} (h : q0w P g R) (hl : ∀ f,q0w P f (orc l f)) : ∀ f,q0w P f (orc ((g,R) :: l) f) := fun f us u h' => by
 rcases h' with ⟨rfl,h'⟩ | h'
 ·exact h us u h'
 ·exact hl f us u h'
theorem qJw {n : Nat} {R : List U → U → Prop} {us : List U} {u : U} : ∀ {l : List (Nat × (List U → U → Prop))},(n,R) ∈ l → R us u → orc l n us u
 | (g,R') :: l,h,hR => by
  rcases List.mem_cons.1 h with h | h
  ·injection h with h1 h2
   subst h1 h2
   exact .inl ⟨rfl,hR⟩
  ·exact .inr (qJw h hR)
abbrev qNs (C : Orc) (n : Nat) (R : List U → U → Prop) : Prop := ∀ us u,R us u → C n us u
theorem sound {f : FuncId} {fn : Func} {R : List U → U → Prop} (l : List (Nat × (List U → U → Prop))) (hl : ∀ f, q0w Tryz.prog f (orc l f)) (hf : Tryz.prog.funcs[f]? = some fn) (hname : (fn.name == "runtime.NumGoroutine") = false) (hb : fn.body.isSome = true)
  (hR : ∀ us u,R us u → ∃ rounds,∀ (C : Orc) (E : Ent),(∀ n R,(n,R) ∈ l → qNs C n R) → body rounds (tab []) C E fn us [] fun w H => shut w H fun w _ => w = u) : q0w Tryz.prog f R :=
 qIa ⟨mixed,qKx [],qDc [],hl⟩ hf hname hb fun us u h => by
  obtain ⟨r,hr⟩ := hR us u h
  exact ⟨r,fun _ _ _ _ => False,fun _ _ _ _ _ _ h => h.elim,hr _ _ fun n R hm us u hu => qJw hm hu⟩
abbrev qEx (rounds : Nat) (ent : List FuncId) (C : Orc) (ents : List (Nat × Func)) (E E' : Ent) : Prop := ∀ f fn,(f,fn) ∈ ents → ∀ us H k,body rounds (tab ent) C E fn us H k → E' f us H k
theorem j1c {f : FuncId} {fn : Func} {R : List U → U → Prop} (l : List (Nat × (List U → U → Prop))) (ents : List (Nat × Func)) (hl : ∀ f, q0w Tryz.prog f (orc l f)) (hents : ∀ f fn, q9c f ents = some fn → Tryz.prog.funcs[f]? = some fn ∧ (fn.name == "runtime.NumGoroutine") = false ∧ fn.body.isSome = true)
  (hnd : ∀ f fn, (f, fn) ∈ ents → q9c f ents = some fn) (hf : Tryz.prog.funcs[f]? = some fn) (hname : (fn.name == "runtime.NumGoroutine") = false) (hb : fn.body.isSome = true)
  (hR : ∀ us u,R us u → ∃ rounds,∀ (C : Orc) (E0 E1 E2 E3 : Ent),(∀ n R,(n,R) ∈ l → qNs C n R) → qEx rounds (ents.map (·.1)) C ents E0 E1 → qEx rounds (ents.map (·.1)) C ents E1 E2 → qEx rounds (ents.map (·.1)) C ents E2 E3 → body rounds (tab (ents.map (·.1))) C E3 fn us [] fun w H => shut w H fun w _ => w = u) : q0w Tryz.prog f R :=
 qIa ⟨mixed,qKx _,qDc _,hl⟩ hf hname hb fun us u h => by
  obtain ⟨r,hr⟩ := hR us u h
  have step : ∀ n,qEx r (ents.map (·.1)) (orc l) ents (qG r (tab (ents.map (·.1))) (orc l) (fun f => q9c f ents) n) (qG r (tab (ents.map (·.1))) (orc l) (fun f => q9c f ents) (n + 1)) := fun n f fn hm us H k hbd => by
   unfold qG
   rw [hnd f fn hm]
   exact hbd
  exact ⟨r,_,fun base S => qJa (fns := fun f => q9c f ents) ⟨mixed,qKx _,qDc _,hl⟩ hents 3,hr _ _ _ _ _ (fun n R hm us u hu => qJw hm hu) (step 0) (step 1) (step 2)⟩
theorem q7z {W : World} {base e : Nat} {ok : Nat → Prop} {S : Nat → Prop} {v : Value} {xs : List Int} (h : Kd.R (Kd.int .u32) e W base ok v xs) : Rep (fun k => S k ∨ base ≤ k) W noM (.l xs) v := by
 obtain ⟨A,c,rfl⟩ := Kd.R_slice h
 exact ⟨A,c,rfl,(Kd.R_reads' h).2.1,Kd.F_mono (Kd.R_F (Kd.R_bound h)) fun k hk => .inr hk.2.1⟩
theorem one_R {W : World} {base e : Nat} {ok : Nat → Prop} {v : Value} {xs : List Int} (h : Kd.R (Kd.int .u32) e W base ok v xs) : v.oneCell' = true := by
 obtain ⟨A,c,rfl⟩ := Kd.R_slice h
 rfl
theorem q6m {w w' : World} (h : q0s w w') : Below w.heap.size w w' := by
 obtain ⟨n,rfl⟩ := h
 exact q3e (Below.refl _ _) n
def q4x (fn : Func) : Code := match fn.body with
 | some c => c
 | none => .skip
theorem wi64 {x : Int} (h0 : -9223372036854775808 ≤ x) (h1 : x ≤ 9223372036854775807) : IntKind.i64.wrap x = x := by rw [IntKind.wrap_i64]; omega
theorem tt {p : Prop} {K : Bool → Prop} (h : K true) (hp : p := by omega) : ∀ t,(t = true ↔ p) → K t := fun t e => by rw [e.2 hp]; exact h
theorem ff {p : Prop} {K : Bool → Prop} (h : K false) (hp : ¬ p := by omega) : ∀ t,(t = true ↔ p) → K t := fun t e => by
 cases t with
 | false => exact h
 | true => exact absurd (e.1 rfl) hp
theorem wr {e : Int} {K : Int → Prop} (h : ∀ r,r = e → K r) (hp : -9223372036854775808 ≤ e ∧ e ≤ 9223372036854775807 := by omega) : ∀ r,r = IntKind.i64.wrap e → K r := fun r hr => h r (hr.trans (wi64 hp.1 hp.2))
theorem wu {e : Int} {K : Int → Prop} (h : ∀ r,r = e % 18446744073709551616 → K r) : ∀ r,r = IntKind.u64.wrap e → K r := fun r hr => h r (by rw [hr,IntKind.wrap_u64])
theorem bq {e : Bool} {K : Bool → Prop} (h : K e) : ∀ t,t = e → K t := fun t ht => ht ▸ h
theorem cl {u : U} {p q : U → Prop} (h : q u) (hp : p u := by assumption) : ∃ u,p u ∧ q u := ⟨u,hp,h⟩
theorem el {us : List U} {xs : Rows} {n : Int} {q : List U → Prop} (h : q us) (h0 : 0 ≤ n := by omega) (hp : xs[n.toNat]? = some us := by assumption) : ∃ us,(0 ≤ n ∧ xs[n.toNat]? = some us) ∧ q us := ⟨us,⟨h0,hp⟩,h⟩
theorem ln {α : Type} {xs : List α} {K : Int → Prop} (h : ∀ n,n = cnt xs → 0 ≤ n → K n) : ∀ n,n = cnt xs → K n := fun n e => h n e (by rw [e]; exact Int.natCast_nonneg _)
theorem q6s {α : Type} (xs : List α) : 0 ≤ cnt xs := Int.natCast_nonneg _
theorem rp {α : Type} {n : Int} {z : α} {K : List α → Prop} (h : ∀ xs,xs = List.replicate n.toNat z → cnt xs = n → K xs) (h0 : 0 ≤ n := by omega) : ∀ xs,xs = List.replicate n.toNat z → K xs := fun xs e => h xs e (by rw [e]; unfold cnt; rw [List.length_replicate]; omega)
theorem se {α : Type} {xs : List α} {n : Nat} {z : α} {K : List α → Prop} (h : ∀ ys,ys = xs.set n z → cnt ys = cnt xs → K ys) : ∀ ys,ys = xs.set n z → K ys := fun ys e => h ys e (by rw [e]; unfold cnt; rw [List.length_set])
theorem tk {α : Type} {xs : List α} {n : Int} {K : List α → Prop} (h : ∀ ys,ys = xs.take n.toNat → cnt ys = n → K ys) (h0 : 0 ≤ n ∧ n ≤ cnt xs := by omega) : ∀ ys,ys = xs.take n.toNat → K ys := fun ys e => h ys e (by rw [e]; unfold cnt at *; rw [List.length_take]; omega)
theorem cp {xs ys : List Int} {K : Int → List Int → Prop} (h : ∀ r,K r ys) (hl : cnt xs = cnt ys := by omega) : ∀ r zs,r = ((Nat.min ys.length xs.length : Nat) : Int) → zs = ys.take xs.length ++ xs.drop ys.length → K r zs := fun r zs _ e => by
 unfold cnt at hl
 have hl : xs.length = ys.length := by omega
 rw [e,hl,List.take_length,List.drop_eq_nil_of_le (by omega),List.append_nil]
 exact h r
theorem ei {x : Int} {xs : List Int} {n : Int} {q : Int → Prop} (h : q x) (h0 : 0 ≤ n := by omega) (hp : xs[n.toNat]? = some x := by assumption) : ∃ x,(0 ≤ n ∧ xs[n.toNat]? = some x) ∧ q x := ⟨x,⟨h0,hp⟩,h⟩
theorem sd {p q : Prop} (h : q) (hp : p := by omega) : ∃ _ : Unit,p ∧ q := ⟨(),hp,h⟩
end Go.Proofs.YtjkcmnedolfkjaaGreat.Rd
end
section
set_option linter.unusedVariables false
set_option linter.unusedSimpArgs false
namespace Go.Proofs.YtjkcmnedolfkjaaGreat.PL
open Go Go.RowKit Go.Proofs.YtjkcmnedolfkjaaGreatW.PrintWords Go.Proofs.YtjkcmnedolfkjaaGreat.Rd
def q1a.R (us : List U) (u : U) : Prop := ∃ (k : Nat) (l0 : List Int) (r : List Int),us = [.l l0] ∧ q1a.f k l0 = some r ∧ u = .l r
theorem q1a.sound : q0w Tryz.prog 133 q1a.R := by
 rintro _ _ ⟨k,l0,r,rfl,h,rfl⟩
 refine ⟨⟨Tryz.f133,q4x Tryz.f133,Tryz.func133,by kernel_rfl,by kernel_rfl⟩,fun W S cs hcs => ?_⟩
 obtain _ | ⟨v0,cs⟩ := cs
 ·exact hcs.elim
 obtain ⟨h0,hcs⟩ := hcs
 obtain _ | ⟨_,cs⟩ := cs
 case cons => exact hcs.elim
 obtain ⟨A0,c0,rfl,hc0,hr0⟩ := h0
 exact (q1a.calls k A0 c0 l0 r W (Kd.F_now hr0) hc0 h).mono fun e W' ⟨v0_,he,qv0_,hb⟩ => ⟨_,he,(q7z qv0_),hb⟩
def q1k.R (us : List U) (u : U) : Prop := ∃ (k : Nat) (l0 : List Int) (l1 : List Int) (r : List Int),us = [.l l0,.l l1] ∧ q1k.f k l0 l1 = some r ∧ u = .l r
theorem q1k.sound : q0w Tryz.prog 122 q1k.R := by
 rintro _ _ ⟨k,l0,l1,r,rfl,h,rfl⟩
 refine ⟨⟨Tryz.f122,q4x Tryz.f122,Tryz.func122,by kernel_rfl,by kernel_rfl⟩,fun W S cs hcs => ?_⟩
 obtain _ | ⟨v0,cs⟩ := cs
 ·exact hcs.elim
 obtain ⟨h0,hcs⟩ := hcs
 obtain _ | ⟨v1,cs⟩ := cs
 ·exact hcs.elim
 obtain ⟨h1,hcs⟩ := hcs
 obtain _ | ⟨_,cs⟩ := cs
 case cons => exact hcs.elim
 obtain ⟨A0,c0,rfl,hc0,hr0⟩ := h0
 obtain ⟨A1,c1,rfl,hc1,hr1⟩ := h1
 exact (q1k.calls k A0 c0 l0 A1 c1 l1 r W (Kd.F_now hr0) hc0 (Kd.F_now hr1) hc1 h).mono fun e W' ⟨v0_,he,qv0_,hb⟩ => ⟨_,he,(q7z qv0_),hb⟩
def q3d.R (us : List U) (u : U) : Prop := ∃ (k : Nat) (l0 : List Int) (l1 : List Int) (r : List Int),us = [.l l0,.l l1] ∧ q3d.f k l0 l1 = some r ∧ u = .l r
theorem q3d.sound : q0w Tryz.prog 143 q3d.R := by
 rintro _ _ ⟨k,l0,l1,r,rfl,h,rfl⟩
 refine ⟨⟨Tryz.f143,q4x Tryz.f143,Tryz.func143,by kernel_rfl,by kernel_rfl⟩,fun W S cs hcs => ?_⟩
 obtain _ | ⟨v0,cs⟩ := cs
 ·exact hcs.elim
 obtain ⟨h0,hcs⟩ := hcs
 obtain _ | ⟨v1,cs⟩ := cs
 ·exact hcs.elim
 obtain ⟨h1,hcs⟩ := hcs
 obtain _ | ⟨_,cs⟩ := cs
 case cons => exact hcs.elim
 obtain ⟨A0,c0,rfl,hc0,hr0⟩ := h0
 obtain ⟨A1,c1,rfl,hc1,hr1⟩ := h1
 exact (q3d.calls k A0 c0 l0 A1 c1 l1 r W (Kd.F_now hr0) hc0 (Kd.F_now hr1) hc1 h).mono fun e W' ⟨v0_,he,qv0_,hb⟩ => ⟨_,he,(q7z qv0_),hb⟩
def q1s.R (us : List U) (u : U) : Prop := ∃ (k : Nat) (l0 : List Int) (l1 : List Int) (r1 : List Int) (r2 : Bool),us = [.l l0,.l l1] ∧ q1s.f k l0 l1 = some (r1,r2) ∧ u = .tup [.l r1,.v (.bool r2)]
theorem q1s.sound : q0w Tryz.prog 144 q1s.R := by
 rintro _ _ ⟨k,l0,l1,r1,r2,rfl,h,rfl⟩
 refine ⟨⟨Tryz.f144,q4x Tryz.f144,Tryz.func144,by kernel_rfl,by kernel_rfl⟩,fun W S cs hcs => ?_⟩
 obtain _ | ⟨v0,cs⟩ := cs
 ·exact hcs.elim
 obtain ⟨h0,hcs⟩ := hcs
 obtain _ | ⟨v1,cs⟩ := cs
 ·exact hcs.elim
 obtain ⟨h1,hcs⟩ := hcs
 obtain _ | ⟨_,cs⟩ := cs
 case cons => exact hcs.elim
 obtain ⟨A0,c0,rfl,hc0,hr0⟩ := h0
 obtain ⟨A1,c1,rfl,hc1,hr1⟩ := h1
 exact (q1s.calls k A0 c0 l0 A1 c1 l1 r1 r2 W (Kd.F_now hr0) hc0 (Kd.F_now hr1) hc1 h).mono fun e W' ⟨v0_,he,qv0_,hb⟩ => ⟨_,he,⟨[v0_,.bool r2],rfl,⟨(q7z qv0_),rfl,trivial⟩⟩,hb⟩
def q2p.R (us : List U) (u : U) : Prop := ∃ (k : Nat) (l0 : List Int) (l1 : List Int) (r : Int),us = [.l l0,.l l1] ∧ q2p.f k l0 l1 = some r ∧ u = .v (.int .i64 r)
theorem q2p.sound : q0w Tryz.prog 116 q2p.R := by
 rintro _ _ ⟨k,l0,l1,r,rfl,h,rfl⟩
 refine ⟨⟨Tryz.f116,q4x Tryz.f116,Tryz.func116,by kernel_rfl,by kernel_rfl⟩,fun W S cs hcs => ?_⟩
 obtain _ | ⟨v0,cs⟩ := cs
 ·exact hcs.elim
 obtain ⟨h0,hcs⟩ := hcs
 obtain _ | ⟨v1,cs⟩ := cs
 ·exact hcs.elim
 obtain ⟨h1,hcs⟩ := hcs
 obtain _ | ⟨_,cs⟩ := cs
 case cons => exact hcs.elim
 obtain ⟨A0,c0,rfl,hc0,hr0⟩ := h0
 obtain ⟨A1,c1,rfl,hc1,hr1⟩ := h1
 exact (q2p.calls k A0 c0 l0 A1 c1 l1 r W (Kd.F_now hr0) hc0 (Kd.F_now hr1) hc1 h).mono fun e W' ⟨he,hd⟩ => ⟨_,he,rfl,q6m hd⟩
def q2q.R (us : List U) (u : U) : Prop := ∃ (k : Nat) (l0 : List Int) (l1 : List Int) (r : List Int),us = [.l l0,.l l1] ∧ q2q.f k l0 l1 = some r ∧ u = .l r
theorem q2q.sound : q0w Tryz.prog 117 q2q.R := by
 rintro _ _ ⟨k,l0,l1,r,rfl,h,rfl⟩
 refine ⟨⟨Tryz.f117,q4x Tryz.f117,Tryz.func117,by kernel_rfl,by kernel_rfl⟩,fun W S cs hcs => ?_⟩
 obtain _ | ⟨v0,cs⟩ := cs
 ·exact hcs.elim
 obtain ⟨h0,hcs⟩ := hcs
 obtain _ | ⟨v1,cs⟩ := cs
 ·exact hcs.elim
 obtain ⟨h1,hcs⟩ := hcs
 obtain _ | ⟨_,cs⟩ := cs
 case cons => exact hcs.elim
 obtain ⟨A0,c0,rfl,hc0,hr0⟩ := h0
 obtain ⟨A1,c1,rfl,hc1,hr1⟩ := h1
 exact (q2q.calls k A0 c0 l0 A1 c1 l1 r W (Kd.F_now hr0) hc0 (Kd.F_now hr1) hc1 h).mono fun e W' ⟨v0_,he,qv0_,hb⟩ => ⟨_,he,(q7z qv0_),hb⟩
def q2b.R (us : List U) (u : U) : Prop := ∃ (k : Nat) (l0 : List Int) (l1 : List Int) (r1 : List Int) (r2 : List Int) (r3 : Bool),us = [.l l0,.l l1] ∧ q2b.f k l0 l1 = some (r1,r2,r3) ∧ u = .tup [.l r1,.l r2,.v (.bool r3)]
theorem q2b.sound : q0w Tryz.prog 141 q2b.R := by
 rintro _ _ ⟨k,l0,l1,r1,r2,r3,rfl,h,rfl⟩
 refine ⟨⟨Tryz.f141,q4x Tryz.f141,Tryz.func141,by kernel_rfl,by kernel_rfl⟩,fun W S cs hcs => ?_⟩
 obtain _ | ⟨v0,cs⟩ := cs
 ·exact hcs.elim
 obtain ⟨h0,hcs⟩ := hcs
 obtain _ | ⟨v1,cs⟩ := cs
 ·exact hcs.elim
 obtain ⟨h1,hcs⟩ := hcs
 obtain _ | ⟨_,cs⟩ := cs
 case cons => exact hcs.elim
 obtain ⟨A0,c0,rfl,hc0,hr0⟩ := h0
 obtain ⟨A1,c1,rfl,hc1,hr1⟩ := h1
 exact (q2b.calls k A0 c0 l0 A1 c1 l1 r1 r2 r3 W (Kd.F_now hr0) hc0 (Kd.F_now hr1) hc1 h).mono fun e W' ⟨v0_,v1_,he,qv0_,qv1_,hb⟩ => ⟨_,he,⟨[v0_,v1_,.bool r3],rfl,⟨(q7z qv0_),(q7z qv1_),rfl,trivial⟩⟩,hb⟩
def q3x.R (us : List U) (u : U) : Prop := ∃ (k : Nat) (a0 : Int) (r : List Int),us = [.v (.int .u64 a0)] ∧ q3x.f k a0 = some r ∧ u = .l r
theorem q3x.sound : q0w Tryz.prog 109 q3x.R := by
 rintro _ _ ⟨k,a0,r,rfl,h,rfl⟩
 refine ⟨⟨Tryz.f109,q4x Tryz.f109,Tryz.func109,by kernel_rfl,by kernel_rfl⟩,fun W S cs hcs => ?_⟩
 obtain _ | ⟨v0,cs⟩ := cs
 ·exact hcs.elim
 obtain ⟨h0,hcs⟩ := hcs
 obtain _ | ⟨_,cs⟩ := cs
 case cons => exact hcs.elim
 obtain rfl := h0
 exact (q3x.calls k a0 r W h).mono fun e W' ⟨v0_,he,qv0_,hb⟩ => ⟨_,he,(q7z qv0_),hb⟩
def q2m.R (us : List U) (u : U) : Prop := ∃ (l0 : List Int) (r : Bool),us = [.l l0] ∧ q2m.f l0 = some r ∧ u = .v (.bool r)
theorem q2m.sound : q0w Tryz.prog 115 q2m.R := by
 rintro _ _ ⟨l0,r,rfl,h,rfl⟩
 refine ⟨⟨Tryz.f115,q4x Tryz.f115,Tryz.func115,by kernel_rfl,by kernel_rfl⟩,fun W S cs hcs => ?_⟩
 obtain _ | ⟨v0,cs⟩ := cs
 ·exact hcs.elim
 obtain ⟨h0,hcs⟩ := hcs
 obtain _ | ⟨_,cs⟩ := cs
 case cons => exact hcs.elim
 obtain ⟨A0,c0,rfl,hc0,hr0⟩ := h0
 exact (q2m.calls A0 c0 l0 r W (Kd.F_now hr0) hc0 h).mono fun e W' ⟨he,hd⟩ => ⟨_,he,rfl,q6m hd⟩
def q1x.R (us : List U) (u : U) : Prop := ∃ (k : Nat) (l0 : List Int) (a1 : Int) (r1 : List Int) (r2 : Bool),us = [.l l0,.v (.int .i64 a1)] ∧ q1x.f k l0 a1 = some (r1,r2) ∧ u = .tup [.l r1,.v (.bool r2)]
theorem q1x.sound : q0w Tryz.prog 126 q1x.R := by
 rintro _ _ ⟨k,l0,a1,r1,r2,rfl,h,rfl⟩
 refine ⟨⟨Tryz.f126,q4x Tryz.f126,Tryz.func126,by kernel_rfl,by kernel_rfl⟩,fun W S cs hcs => ?_⟩
 obtain _ | ⟨v0,cs⟩ := cs
 ·exact hcs.elim
 obtain ⟨h0,hcs⟩ := hcs
 obtain _ | ⟨v1,cs⟩ := cs
 ·exact hcs.elim
 obtain ⟨h1,hcs⟩ := hcs
 obtain _ | ⟨_,cs⟩ := cs
 case cons => exact hcs.elim
 obtain ⟨A0,c0,rfl,hc0,hr0⟩ := h0
 obtain rfl := h1
 exact (q1x.calls k A0 c0 l0 a1 r1 r2 W (Kd.F_now hr0) hc0 h).mono fun e W' ⟨v0_,he,qv0_,hb⟩ => ⟨_,he,⟨[v0_,.bool r2],rfl,⟨(q7z qv0_),rfl,trivial⟩⟩,hb⟩
def q1t.R (us : List U) (u : U) : Prop := ∃ (a0 : Int) (a1 : Int) (r : Bool),us = [.v (.int .i64 a0),.v (.int .i64 a1)] ∧ q1t.f a0 a1 = some r ∧ u = .v (.bool r)
theorem q1t.sound : q0w Tryz.prog 124 q1t.R := by
 rintro _ _ ⟨a0,a1,r,rfl,h,rfl⟩
 refine ⟨⟨Tryz.f124,q4x Tryz.f124,Tryz.func124,by kernel_rfl,by kernel_rfl⟩,fun W S cs hcs => ?_⟩
 obtain _ | ⟨v0,cs⟩ := cs
 ·exact hcs.elim
 obtain ⟨h0,hcs⟩ := hcs
 obtain _ | ⟨v1,cs⟩ := cs
 ·exact hcs.elim
 obtain ⟨h1,hcs⟩ := hcs
 obtain _ | ⟨_,cs⟩ := cs
 case cons => exact hcs.elim
 obtain rfl := h0
 obtain rfl := h1
 exact (q1t.calls a0 a1 r W h).mono fun e W' ⟨he,hd⟩ => ⟨_,he,rfl,q6m hd⟩
def q0p.R (us : List U) (u : U) : Prop := ∃ (k : Nat) (l0 : List Int) (l1 : List Int) (r : Bool),us = [.l l0,.l l1] ∧ q0p.f k l0 l1 = some r ∧ u = .v (.bool r)
theorem q0p.sound : q0w Tryz.prog 55 q0p.R := by
 rintro _ _ ⟨k,l0,l1,r,rfl,h,rfl⟩
 refine ⟨⟨Tryz.f55,q4x Tryz.f55,Tryz.func55,by kernel_rfl,by kernel_rfl⟩,fun W S cs hcs => ?_⟩
 obtain _ | ⟨v0,cs⟩ := cs
 ·exact hcs.elim
 obtain ⟨h0,hcs⟩ := hcs
 obtain _ | ⟨v1,cs⟩ := cs
 ·exact hcs.elim
 obtain ⟨h1,hcs⟩ := hcs
 obtain _ | ⟨_,cs⟩ := cs
 case cons => exact hcs.elim
 obtain ⟨A0,c0,rfl,hc0,hr0⟩ := h0
 obtain ⟨A1,c1,rfl,hc1,hr1⟩ := h1
 exact (q0p.calls k A0 c0 l0 A1 c1 l1 r W (Kd.F_now hr0) hc0 (Kd.F_now hr1) hc1 h).mono fun e W' ⟨he,hd⟩ => ⟨_,he,rfl,q6m hd⟩
def q0a.R (us : List U) (u : U) : Prop := ∃ (k : Nat) (l0 : List Int) (r : List Int),us = [.l l0] ∧ q0a.f k l0 = some r ∧ u = .l r
theorem q0a.sound : q0w Tryz.prog 63 q0a.R := by
 rintro _ _ ⟨k,l0,r,rfl,h,rfl⟩
 refine ⟨⟨Tryz.f63,q4x Tryz.f63,Tryz.func63,by kernel_rfl,by kernel_rfl⟩,fun W S cs hcs => ?_⟩
 obtain _ | ⟨v0,cs⟩ := cs
 ·exact hcs.elim
 obtain ⟨h0,hcs⟩ := hcs
 obtain _ | ⟨_,cs⟩ := cs
 case cons => exact hcs.elim
 obtain ⟨A0,c0,rfl,hc0,hr0⟩ := h0
 exact (q0a.calls k A0 c0 l0 r W (Kd.F_now hr0) hc0 h).mono fun e W' ⟨v0_,he,qv0_,hb⟩ => ⟨_,he,(q7z qv0_),hb⟩
def q0o.R (us : List U) (u : U) : Prop := ∃ (k : Nat) (l0 : List Int) (l1 : List Int) (r : List Int),us = [.l l0,.l l1] ∧ q0o.f k l0 l1 = some r ∧ u = .l r
theorem q0o.sound : q0w Tryz.prog 81 q0o.R := by
 rintro _ _ ⟨k,l0,l1,r,rfl,h,rfl⟩
 refine ⟨⟨Tryz.f81,q4x Tryz.f81,Tryz.func81,by kernel_rfl,by kernel_rfl⟩,fun W S cs hcs => ?_⟩
 obtain _ | ⟨v0,cs⟩ := cs
 ·exact hcs.elim
 obtain ⟨h0,hcs⟩ := hcs
 obtain _ | ⟨v1,cs⟩ := cs
 ·exact hcs.elim
 obtain ⟨h1,hcs⟩ := hcs
 obtain _ | ⟨_,cs⟩ := cs
 case cons => exact hcs.elim
 obtain ⟨A0,c0,rfl,hc0,hr0⟩ := h0
 obtain ⟨A1,c1,rfl,hc1,hr1⟩ := h1
 exact (q0o.calls k A0 c0 l0 A1 c1 l1 r W (Kd.F_now hr0) hc0 (Kd.F_now hr1) hc1 h).mono fun e W' ⟨v0_,he,qv0_,hb⟩ => ⟨_,he,(q7z qv0_),hb⟩
def q0d.R (us : List U) (u : U) : Prop := ∃ (k : Nat) (l0 : List Int) (l1 : List Int) (r1 : List Int) (r2 : List Int) (r3 : Bool),us = [.l l0,.l l1] ∧ q0d.f k l0 l1 = some (r1,r2,r3) ∧ u = .agg [.l r1,.l r2,.v (.bool r3)]
theorem q0d.sound : q0w Tryz.prog 98 q0d.R := by
 rintro _ _ ⟨k,l0,l1,r1,r2,r3,rfl,h,rfl⟩
 refine ⟨⟨Tryz.f98,q4x Tryz.f98,Tryz.func98,by kernel_rfl,by kernel_rfl⟩,fun W S cs hcs => ?_⟩
 obtain _ | ⟨v0,cs⟩ := cs
 ·exact hcs.elim
 obtain ⟨h0,hcs⟩ := hcs
 obtain _ | ⟨v1,cs⟩ := cs
 ·exact hcs.elim
 obtain ⟨h1,hcs⟩ := hcs
 obtain _ | ⟨_,cs⟩ := cs
 case cons => exact hcs.elim
 obtain ⟨A0,c0,rfl,hc0,hr0⟩ := h0
 obtain ⟨A1,c1,rfl,hc1,hr1⟩ := h1
 exact (q0d.calls k A0 c0 l0 A1 c1 l1 r1 r2 r3 W (Kd.F_now hr0) hc0 (Kd.F_now hr1) hc1 h).mono fun e W' ⟨v0_,v1_,he,qv0_,qv1_,hb⟩ => ⟨_,he,⟨[v0_,v1_,.bool r3],rfl,⟨(q7z qv0_),(q7z qv1_),rfl,trivial⟩,by intro v hv; simp only [List.mem_cons,List.not_mem_nil,or_false] at hv; (rcases hv with rfl | rfl | rfl; exact one_R qv0_; exact one_R qv1_; exact rfl)⟩,hb⟩
def q0g.R (us : List U) (u : U) : Prop := ∃ (k : Nat) (l0 : List Int) (l1 : List Int) (r : List Int),us = [.l l0,.l l1] ∧ q0g.f k l0 l1 = some r ∧ u = .l r
theorem q0g.sound : q0w Tryz.prog 61 q0g.R := by
 rintro _ _ ⟨k,l0,l1,r,rfl,h,rfl⟩
 refine ⟨⟨Tryz.f61,q4x Tryz.f61,Tryz.func61,by kernel_rfl,by kernel_rfl⟩,fun W S cs hcs => ?_⟩
 obtain _ | ⟨v0,cs⟩ := cs
 ·exact hcs.elim
 obtain ⟨h0,hcs⟩ := hcs
 obtain _ | ⟨v1,cs⟩ := cs
 ·exact hcs.elim
 obtain ⟨h1,hcs⟩ := hcs
 obtain _ | ⟨_,cs⟩ := cs
 case cons => exact hcs.elim
 obtain ⟨A0,c0,rfl,hc0,hr0⟩ := h0
 obtain ⟨A1,c1,rfl,hc1,hr1⟩ := h1
 exact (q0g.calls k A0 c0 l0 A1 c1 l1 r W (Kd.F_now hr0) hc0 (Kd.F_now hr1) hc1 h).mono fun e W' ⟨v0_,he,qv0_,hb⟩ => ⟨_,he,(q7z qv0_),hb⟩
def q1g.R (us : List U) (u : U) : Prop := ∃ (k : Nat) (a0 : Int) (r : List Int),us = [.v (.int .u64 a0)] ∧ q1g.f k a0 = some r ∧ u = .l r
theorem q1g.sound : q0w Tryz.prog 110 q1g.R := by
 rintro _ _ ⟨k,a0,r,rfl,h,rfl⟩
 refine ⟨⟨Tryz.f110,q4x Tryz.f110,Tryz.func110,by kernel_rfl,by kernel_rfl⟩,fun W S cs hcs => ?_⟩
 obtain _ | ⟨v0,cs⟩ := cs
 ·exact hcs.elim
 obtain ⟨h0,hcs⟩ := hcs
 obtain _ | ⟨_,cs⟩ := cs
 case cons => exact hcs.elim
 obtain rfl := h0
 exact (q1g.calls k a0 r W h).mono fun e W' ⟨v0_,he,qv0_,hb⟩ => ⟨_,he,(q7z qv0_),hb⟩
def q0z.R (us : List U) (u : U) : Prop := ∃ (l0 : List Int) (r : Bool),us = [.l l0] ∧ q0z.f l0 = some r ∧ u = .v (.bool r)
theorem q0z.sound : q0w Tryz.prog 80 q0z.R := by
 rintro _ _ ⟨l0,r,rfl,h,rfl⟩
 refine ⟨⟨Tryz.f80,q4x Tryz.f80,Tryz.func80,by kernel_rfl,by kernel_rfl⟩,fun W S cs hcs => ?_⟩
 obtain _ | ⟨v0,cs⟩ := cs
 ·exact hcs.elim
 obtain ⟨h0,hcs⟩ := hcs
 obtain _ | ⟨_,cs⟩ := cs
 case cons => exact hcs.elim
 obtain ⟨A0,c0,rfl,hc0,hr0⟩ := h0
 exact (q0z.calls A0 c0 l0 r W (Kd.F_now hr0) hc0 h).mono fun e W' ⟨he,hd⟩ => ⟨_,he,rfl,q6m hd⟩
def q0f.R (us : List U) (u : U) : Prop := ∃ (k : Nat) (l0 : List Int) (l1 : List Int) (r : List Int),us = [.l l0,.l l1] ∧ q0f.f k l0 l1 = some r ∧ u = .l r
theorem q0f.sound : q0w Tryz.prog 99 q0f.R := by
 rintro _ _ ⟨k,l0,l1,r,rfl,h,rfl⟩
 refine ⟨⟨Tryz.f99,q4x Tryz.f99,Tryz.func99,by kernel_rfl,by kernel_rfl⟩,fun W S cs hcs => ?_⟩
 obtain _ | ⟨v0,cs⟩ := cs
 ·exact hcs.elim
 obtain ⟨h0,hcs⟩ := hcs
 obtain _ | ⟨v1,cs⟩ := cs
 ·exact hcs.elim
 obtain ⟨h1,hcs⟩ := hcs
 obtain _ | ⟨_,cs⟩ := cs
 case cons => exact hcs.elim
 obtain ⟨A0,c0,rfl,hc0,hr0⟩ := h0
 obtain ⟨A1,c1,rfl,hc1,hr1⟩ := h1
 exact (q0f.calls k A0 c0 l0 A1 c1 l1 r W (Kd.F_now hr0) hc0 (Kd.F_now hr1) hc1 h).mono fun e W' ⟨v0_,he,qv0_,hb⟩ => ⟨_,he,(q7z qv0_),hb⟩
def q0l.R (us : List U) (u : U) : Prop := ∃ (k : Nat) (l0 : List Int) (l1 : List Int) (r : List Int),us = [.l l0,.l l1] ∧ q0l.f k l0 l1 = some r ∧ u = .l r
theorem q0l.sound : q0w Tryz.prog 101 q0l.R := by
 rintro _ _ ⟨k,l0,l1,r,rfl,h,rfl⟩
 refine ⟨⟨Tryz.f101,q4x Tryz.f101,Tryz.func101,by kernel_rfl,by kernel_rfl⟩,fun W S cs hcs => ?_⟩
 obtain _ | ⟨v0,cs⟩ := cs
 ·exact hcs.elim
 obtain ⟨h0,hcs⟩ := hcs
 obtain _ | ⟨v1,cs⟩ := cs
 ·exact hcs.elim
 obtain ⟨h1,hcs⟩ := hcs
 obtain _ | ⟨_,cs⟩ := cs
 case cons => exact hcs.elim
 obtain ⟨A0,c0,rfl,hc0,hr0⟩ := h0
 obtain ⟨A1,c1,rfl,hc1,hr1⟩ := h1
 exact (q0l.calls k A0 c0 l0 A1 c1 l1 r W (Kd.F_now hr0) hc0 (Kd.F_now hr1) hc1 h).mono fun e W' ⟨v0_,he,qv0_,hb⟩ => ⟨_,he,(q7z qv0_),hb⟩
def q0n.R (us : List U) (u : U) : Prop := ∃ (k : Nat) (l0 : List Int) (l1 : List Int) (r : Int),us = [.l l0,.l l1] ∧ q0n.f k l0 l1 = some r ∧ u = .v (.int .i64 r)
theorem q0n.sound : q0w Tryz.prog 100 q0n.R := by
 rintro _ _ ⟨k,l0,l1,r,rfl,h,rfl⟩
 refine ⟨⟨Tryz.f100,q4x Tryz.f100,Tryz.func100,by kernel_rfl,by kernel_rfl⟩,fun W S cs hcs => ?_⟩
 obtain _ | ⟨v0,cs⟩ := cs
 ·exact hcs.elim
 obtain ⟨h0,hcs⟩ := hcs
 obtain _ | ⟨v1,cs⟩ := cs
 ·exact hcs.elim
 obtain ⟨h1,hcs⟩ := hcs
 obtain _ | ⟨_,cs⟩ := cs
 case cons => exact hcs.elim
 obtain ⟨A0,c0,rfl,hc0,hr0⟩ := h0
 obtain ⟨A1,c1,rfl,hc1,hr1⟩ := h1
 exact (q0n.calls k A0 c0 l0 A1 c1 l1 r W (Kd.F_now hr0) hc0 (Kd.F_now hr1) hc1 h).mono fun e W' ⟨he,hb⟩ => ⟨_,he,rfl,hb⟩
end Go.Proofs.YtjkcmnedolfkjaaGreat.PL
end
section
set_option linter.unusedVariables false
set_option linter.unusedSimpArgs false
namespace Go.Proofs.YtjkcmnedolfkjaaGreat.Rd
open Go Go.RowKit Go.Proofs.YtjkcmnedolfkjaaGreatW.PrintWords
section
variable {P : Program} {base : Nat} {S : Nat → Prop}
section
variable {r : Nat → Nat} {m m2 : Map} {ok : Nat → Prop} {W : World}
mutual
theorem Rep.ren (hm : ∀ i b,m i = some b → m2 (r i) = some b) : ∀ (u : U) (v : Value),Rep ok W m u v → Rep ok W m2 (qBb r u) v
 | .v x,y,hr => hr
 | .l xs,y,hr => hr
 | .s k xs,y,hr => hr
 | .agg us,y,hr => by
  obtain ⟨vs,h1,h2,h3⟩ := hr
  exact ⟨vs,h1,Reps.ren hm us vs h2,h3⟩
 | .tup us,y,hr => by
  obtain ⟨vs,h1,h2⟩ := hr
  exact ⟨vs,h1,Reps.ren hm us vs h2⟩
 | .fp us off,y,hr => hr
 | .ptr id off,y,hr => by
  obtain ⟨b,h1,h2⟩ := hr
  exact ⟨b,hm _ _ h1,h2⟩
 | .pe id k i off,y,hr => by
  obtain ⟨b,h1,h2⟩ := hr
  exact ⟨b,hm _ _ h1,h2⟩
 | .sl id len cap k,y,hr => by
  obtain ⟨b,h1,h2⟩ := hr
  exact ⟨b,hm _ _ h1,h2⟩
 | .clo f us,y,hr => by
  obtain ⟨vs,h1,h2⟩ := hr
  exact ⟨vs,h1,Reps.ren hm us vs h2⟩
 | .lost,y,hr => hr
theorem Reps.ren (hm : ∀ i b,m i = some b → m2 (r i) = some b) : ∀ (us : List U) (vs : List Value),Reps ok W m us vs → Reps ok W m2 (qBb.rens r us) vs
 | [],[],hr => hr
 | u :: us,v :: vs,hr => ⟨Rep.ren hm u v hr.1,Reps.ren hm us vs hr.2⟩
 | [],_ :: _,hr => hr.elim
 | _ :: _,[],hr => hr.elim
end
theorem qPa : ∀ us : List U,qBb.rens r us = us.map (qBb r)
 | [] => rfl
 | u :: us => by show qBb r u :: _ = _; rw [qPa us]; rfl
theorem qXi (hm : ∀ i b,m i = some b → m2 (r i) = some b) {o o' : Ob} {vs : List Value} (he : qEz r (some o) = some o') (h : o.rep ok W m vs) : o'.rep ok W m2 vs := by
 cases o with
 | cells us => injection he with he; subst he; show Reps _ _ _ _ _; rw [← qPa]; exact Reps.ren hm us vs h
 | row k xs => injection he with he; subst he; exact h
 | lim xs => injection he with he; subst he; exact h
end
theorem qJm {r : Nat → Nat} {o : Option Ob} {ob : Ob} (h : qEz r o = some ob) : ∃ ob0,o = some ob0 ∧ qEz r (some ob0) = some ob := by
 cases o with
 | none => cases h
 | some ob0 => exact ⟨ob0,rfl,h⟩
theorem qFw {h : q1f} {j id : Nat} {o : Option Ob} {ob : Ob} (he : q0r (h.set j o) id = some ob) : (id = j ∧ o = some ob) ∨ (id ≠ j ∧ q0r h id = some ob) := by
 unfold q0r at he ⊢
 rw [List.getElem?_set] at he
 split at he
 ·rename_i e
  subst e
  split at he
  ·exact .inl ⟨rfl,by simpa using he⟩
  ·simp at he
 ·rename_i e
  exact .inr ⟨Ne.symm e,he⟩
theorem qGp {r : Nat → Nat} : ∀ {js : List Nat} {os h : q1f} {id : Nat} {ob : Ob},q0r (qJo r js os h) id = some ob → (∃ i ob0,js[i]? = some id ∧ q0r os i = some ob0 ∧ qEz r (some ob0) = some ob) ∨ (id ∉ js ∧ q0r h id = some ob)
 | [],os,h,id,ob,he => .inr ⟨by simp,he⟩
 | j :: js,[],h,id,ob,he => by
  rcases qGp (js := js) (os := []) (h := h.set j none) he with ⟨i,ob0,h1,h2,h3⟩ | ⟨h1,h2⟩
  ·simp [q0r] at h2
  ·rcases qFw h2 with ⟨_,e⟩ | ⟨e,h3⟩
   ·cases e
   ·exact .inr ⟨by simp [h1,e],h3⟩
 | j :: js,o :: os,h,id,ob,he => by
  rcases qGp (js := js) (os := os) (h := h.set j (qEz r o)) he with ⟨i,ob0,h1,h2,h3⟩ | ⟨h1,h2⟩
  ·exact .inl ⟨i + 1,ob0,by simpa using h1,by simpa [q0r] using h2,h3⟩
  ·rcases qFw h2 with ⟨e,e2⟩ | ⟨e,h3⟩
   ·obtain ⟨ob0,e3,e4⟩ := qJm e2
    exact .inl ⟨0,ob0,by simp [e],by simp [q0r,e3],e4⟩
   ·exact .inr ⟨by simp [h1,e],h3⟩
theorem q7f {r : Nat → Nat} : ∀ (js : List Nat) (os h : q1f),(qJo r js os h).length = h.length
 | [],_,_ => rfl
 | j :: js,[],h => by rw [qJo,q7f js [] _,List.length_set]
 | j :: js,o :: os,h => by rw [qJo,q7f js os _,List.length_set]
theorem qAc {js : List Nat} {h hs : q1f} {id : Nat} {ob : Ob} (hj : ∀ j ∈ js,j < h.length) (he : q0r (q9l js h hs) id = some ob) : (∃ i ob0,id = back js h.length i ∧ q0r hs i = some ob0 ∧ qEz (back js h.length) (some ob0) = some ob) ∨ (id < h.length ∧ id ∉ js ∧ q0r h id = some ob) := by
 unfold q9l at he
 rcases Nat.lt_or_ge id h.length with hlt | hge
 ·have he : q0r (qJo (back js h.length) js hs h) id = some ob := by
   unfold q0r at he ⊢
   rw [List.getElem?_append_left (by rw [q7f]; exact hlt)] at he
   exact he
  rcases qGp he with ⟨i,ob0,h1,h2,h3⟩ | ⟨h1,h2⟩
  ·exact .inl ⟨i,ob0,by unfold back; rw [h1],h2,h3⟩
  ·exact .inr ⟨hlt,h1,h2⟩
 ·unfold q0r at he
  rw [List.getElem?_append_right (by rw [q7f]; exact hge),q7f,List.getElem?_map,List.getElem?_drop] at he
  cases hx : hs[js.length + (id - h.length)]? with
  | none => rw [hx] at he; simp at he
  | some o =>
   rw [hx] at he
   have he : qEz (back js h.length) o = some ob := by simpa using he
   obtain ⟨ob0,rfl,e2⟩ := qJm he
   refine .inl ⟨js.length + (id - h.length),ob0,?_,by unfold q0r; rw [hx]; rfl,e2⟩
   unfold back
   rw [List.getElem?_eq_none (by omega)]
   show id = h.length + (js.length + (id - h.length) - js.length)
   omega
theorem qIq : ∀ {js : List Nat} {os : q1f},js.length = os.length → os.all qGn = true → q6h js os = js
 | [],[],_,_ => rfl
 | j :: js,some o :: os,hl,h => by
  rw [List.all_cons,Bool.and_eq_true] at h
  show j :: q6h js os = _
  rw [qIq (by simpa using hl) h.2]
 | j :: js,none :: os,hl,h => by simp [qGn] at h
 | [],_ :: _,hl,_ => by simp at hl
 | _ :: _,[],hl,_ => by simp at hl
theorem j4l {f : FuncId} {R : HR} (hR : ∀ (base : Nat) (S : Nat → Prop) us H k,R us H k → q9u P base S f us H k) {us : List U} {H : q1f} {k : U → q1f → Prop} (hs : seen R us H k) : q9u P base S f us H k := fun m W cs hp hfr hbig hcs => by
 obtain ⟨n,rs,us0,hs,⟨h1,h2,h3,h4,h5⟩,hk⟩ := hs.out
 have hlo : ∀ i,i < n → (List.range n ++ rs)[i]? = some i := fun i hi => by rw [List.getElem?_append_left (by simpa using hi)]; simp [hi]
 generalize List.range n ++ rs = js at *
 have hj : ∀ j ∈ js,j < H.length := fun j hj => by simpa using List.all_eq_true.1 h4 j hj
 have hlen := qNi h2
 have hm : ∀ i,i < n → (fun i => (js[i]?).bind m) i = m i := fun i hi => by show (js[i]?).bind m = m i; rw [hlo i hi]; rfl
 obtain ⟨ms,hms⟩ : ∃ ms : Map,ms = fun i => (js[i]?).bind m := ⟨_,rfl⟩
 have hsub := qMf (m := m) h2
 obtain ⟨S',hS'⟩ : ∃ S' : Nat → Prop,S' = fun k => (S k ∨ base ≤ k) ∧ ¬ (own m (q1q H) k ∧ ¬ own ms (q1q hs) k) := ⟨_,rfl⟩
 have hal : ∀ i j,js[i]? = some j → ∃ b ob,m j = some b ∧ q0r H j = some ob ∧ ∃ ob',q0r hs i = some ob' := fun i j hij => by
  have hi : i < hs.length := by rw [← hlen]; exact (List.getElem?_eq_some_iff.1 hij).1
  have := List.all_eq_true.1 h5 hs[i] (List.getElem_mem hi)
  cases hx : hs[i] with
  | none => rw [hx] at this; cases this
  | some ob' =>
   have hat : q0r hs i = some ob' := by unfold q0r; rw [List.getElem?_eq_getElem hi,hx]; rfl
   obtain ⟨j',e1,e2⟩ := q9r h2 hat
   rw [hij] at e1
   injection e1 with e1
   subst e1
   obtain ⟨ob,e3⟩ := qOd e2
   obtain ⟨b,_,_,e4,_⟩ := hp.at_ j ob e3
   exact ⟨b,ob,e4,e3,ob',hat⟩
 have hok : ∀ k,q3o base S (own m (q1q H)) k → q3o W.heap.size S' (own (fun i => (js[i]?).bind m) (q1q hs)) k := fun k hk => ⟨.inl (by rw [hS']; exact ⟨hk.1,fun q => hk.2 q.1⟩),fun hb => hk.2 (hsub k hb)⟩
 have hps : Hp (fun i => (js[i]?).bind m) S' W.heap.size W (q1q hs) := qUm hlo (by rw [qIq hlen h5]; exact h3) h2 hp hok fun i b hi => by
  obtain ⟨j,e1,e2⟩ := Option.bind_eq_some_iff.1 hi
  obtain ⟨b',ob,e3,e4,ob',e5⟩ := hal i j e1
  refine .inl ?_
  rw [hS']
  exact ⟨hp.lo j b e2,fun q => q.2 ⟨i,ob',e5,by rw [hms]; exact hi⟩⟩
 have hcs' : Reps (q3o W.heap.size S' (own (fun i => (js[i]?).bind m) (q1q hs))) W (fun i => (js[i]?).bind m) us0 cs := Reps.move (q3s.up fun k hk _ => hok k hk) _ _ (qHk hm h1 hcs)
 rw [← hms] at hps hcs' hsub hok
 have hmsj : ∀ i j,js[i]? = some j → ms i = m j := fun i j hij => by rw [hms]; show (js[i]?).bind m = m j; rw [hij]; rfl
 refine (hR W.heap.size S' us0 hs _ hk ms W cs hps (fun id hid => ?_) (Nat.le_refl _) hcs').mono fun e W' ⟨u,Hs',ms',v,q1,q2,q3,q4,q5,q6⟩ => ?_
 ·rw [hms]
  show (js[id]?).bind m = none
  rw [List.getElem?_eq_none (by omega)]
  rfl
 clear hms
 obtain ⟨m',hm'⟩ : ∃ m' : Map,m' = fun id => if id < H.length then m id else ms' (js.length + (id - H.length)) := ⟨_,rfl⟩
 have hm1 : ∀ id,id < H.length → m' id = m id := fun id hid => by rw [hm']; show (if _ then _ else _) = _; rw [if_pos hid]
 have hm2 : ∀ id,H.length ≤ id → m' id = ms' (js.length + (id - H.length)) := fun id hid => by rw [hm']; show (if _ then _ else _) = _; rw [if_neg (by omega)]
 have hbk : ∀ i b,ms' i = some b → m' (back js H.length i) = some b := fun i b hb => by
  unfold back
  cases hx : js[i]? with
  | some j =>
   obtain ⟨b',ob,e3,e4,ob',e5⟩ := hal i j hx
   have := q6.map i b' (by rw [hmsj i j hx]; exact e3)
   rw [hb] at this
   injection this with this
   subst this
   show m' j = _
   rw [hm1 j (hj j (List.mem_of_getElem? hx))]
   exact e3
  | none =>
   have hi : js.length ≤ i := List.getElem?_eq_none_iff.1 hx
   show m' (H.length + (i - js.length)) = _
   rw [hm2 _ (by omega),show js.length + (H.length + (i - js.length) - H.length) = i by omega]
   exact hb
 have hframe : ∀ id ob b,id ∉ js → q0r H id = some ob → m id = some b → ¬ own ms (q1q hs) b := fun id ob b hn ho hb ⟨i,ob',e1,e2⟩ => by
  obtain ⟨j,e3,_⟩ := q9r h2 e1
  obtain ⟨b',ob2,e4,e5,_⟩ := hal i j e3
  rw [hmsj i j e3] at e2
  have := hp.inj id j b ob ob2 ho e5 hb e2
  subst this
  exact hn (List.mem_of_getElem? e3)
 have hown : ∀ b,own m' (q1q (q9l js H Hs')) b → own ms' (q1q Hs') b ∨ (own m (q1q H) b ∧ ¬ own ms (q1q hs) b) := fun b ⟨id,ob,e1,e2⟩ => by
  rcases qAc hj e1 with ⟨i,ob0,e3,e4,e5⟩ | ⟨e3,e4,e5⟩
  ·obtain ⟨b0,_,_,e6,_⟩ := q4.at_ i ob0 e4
   have := hbk i b0 e6
   rw [← e3,e2] at this
   injection this with this
   subst this
   exact .inl ⟨i,ob0,e4,e6⟩
  ·rw [hm1 id e3] at e2
   exact .inr ⟨⟨id,ob,e5,e2⟩,hframe id ob b e4 e5 e2⟩
 have hsz : ∀ b,own m (q1q H) b → b < W.heap.size := fun b ⟨id,ob,e1,e2⟩ => hp.lt id b e2
 have okS : ∀ k,q3o W.heap.size S' (own ms' (q1q Hs')) k → q3o base S (own m' (q1q (q9l js H Hs'))) k := fun k ⟨h1,h2⟩ => by
  rw [hS'] at h1
  rcases h1 with h1 | h1
  ·exact ⟨h1.1, fun hb => by
    rcases hown k hb with g | g
    ·exact h2 g
    ·exact h1.2 g⟩
  ·exact ⟨.inr (Nat.le_trans hbig h1), fun hb => by
    rcases hown k hb with g | g
    ·exact h2 g
    ·have := hsz k g.1; omega⟩
 have okF : ∀ k, q3o base S (own m (q1q H)) k → k < W.heap.size → q3o base S (own m' (q1q (q9l js H Hs'))) k := fun k hk hlt =>       ⟨hk.1, fun hb => by
  rcases hown k hb with g | g
  ·rcases q6.new k g with g | g
   ·exact hk.2 (hsub k g)
   ·omega
  ·exact hk.2 g.1⟩
 have hmap : ∀ id b,m id = some b → m' id = some b := fun id b hb => by
  rw [hm1 id (Nat.lt_of_not_le fun hle => by rw [hfr id hle] at hb; cases hb)]
  exact hb
 have hmem : ∀ k,k < W.heap.size → ¬ own ms (q1q hs) k → W'.heap[k]? = W.heap[k]? := q6.mem
 have hlas : q3s m m' (q3o base S (own m (q1q H))) (q3o base S (own m' (q1q (q9l js H Hs')))) W W' := ⟨hmap,fun k hk hlt => hmem k hlt fun hb => hk.2 (hsub k hb),okF⟩
 have hlS : ∀ m1 : Map,q3s m1 m1 (q3o W.heap.size S' (own ms' (q1q Hs'))) (q3o base S (own m' (q1q (q9l js H Hs')))) W' W' := fun m1 => q3s.up fun k hk _ => okS k hk
 refine ⟨_,_,m',v,q1,q2,Rep.ren hbk u v (Rep.move (hlS _) _ _ q3),⟨fun id ob hid => ?_,fun x y b ox oy kx ky mx my => ?_,fun id b hb => ?_,fun id b hb => ?_⟩,fun id hid => ?_,⟨hmap,fun k hk => ?_,q6.size,fun k hlt hk => hmem k hlt fun hb => hk (hsub k hb),q6.os,q6.tape,q6.output⟩⟩
 ·rcases qAc hj hid with ⟨i,ob0,e3,e4,e5⟩ | ⟨e3,e4,e5⟩
  ·obtain ⟨b,vs,te,p1,p2,p3,p4⟩ := q4.at_ i ob0 e4
   exact ⟨b,vs,te,by rw [e3]; exact hbk i b p1,p2,qXi hbk e5 (Ob.rep.move (hlS _) _ _ p3),p4⟩
  ·obtain ⟨b,vs,te,p1,p2,p3,p4⟩ := hp.at_ id ob e5
   exact ⟨b,vs,te,hmap id b p1,by rw [hmem b (hp.lt id b p1) (hframe id ob b e4 e5 p1)]; exact p2,Ob.rep.move hlas _ _ p3,p4⟩
 ·rcases qAc hj kx with ⟨i,o1,e3,e4,e5⟩ | ⟨e3,e4,e5⟩
  ·obtain ⟨b1,_,_,p1,_⟩ := q4.at_ i o1 e4
   have := hbk i b1 p1
   rw [← e3,mx] at this
   injection this with this
   subst this
   rcases qAc hj ky with ⟨i',o2,g3,g4,g5⟩ | ⟨g3,g4,g5⟩
   ·obtain ⟨b2,_,_,p2,_⟩ := q4.at_ i' o2 g4
    have := hbk i' b2 p2
    rw [← g3,my] at this
    injection this with this
    subst this
    rw [e3,g3,q4.inj i i' b _ _ e4 g4 p1 p2]
   ·rw [hm1 y g3] at my
    rcases q6.new b ⟨i,o1,e4,p1⟩ with g | g
    ·exact absurd g (hframe y oy b g4 g5 my)
    ·have := hp.lt y b my; omega
  ·rw [hm1 x e3] at mx
   rcases qAc hj ky with ⟨i',o2,g3,g4,g5⟩ | ⟨g3,g4,g5⟩
   ·obtain ⟨b2,_,_,p2,_⟩ := q4.at_ i' o2 g4
    have := hbk i' b2 p2
    rw [← g3,my] at this
    injection this with this
    subst this
    rcases q6.new b ⟨i',o2,g4,p2⟩ with g | g
    ·exact absurd g (hframe x ox b e4 e5 mx)
    ·have := hp.lt x b mx; omega
   ·rw [hm1 y g3] at my
    exact hp.inj x y b ox oy e5 g5 mx my
 ·rcases Nat.lt_or_ge id H.length with hlt | hge
  ·rw [hm1 id hlt] at hb
   exact Nat.lt_of_lt_of_le (hp.lt id b hb) q6.size
  ·rw [hm2 id hge] at hb
   exact q4.lt _ b hb
 ·rcases Nat.lt_or_ge id H.length with hlt | hge
  ·rw [hm1 id hlt] at hb
   exact hp.lo id b hb
  ·rw [hm2 id hge] at hb
   rcases q4.lo _ b hb with g | g
   ·rw [hS'] at g
    exact g.1
   ·exact .inr (Nat.le_trans hbig g)
 ·have hid : H.length + (Hs'.length - js.length) ≤ id := by
   have : (q9l js H Hs').length = H.length + (Hs'.length - js.length) := by
    unfold q9l
    rw [List.length_append,q7f,List.length_map,List.length_drop]
   omega
  rw [hm2 id (by omega)]
  exact q5 _ (by omega)
 ·rcases hown k hk with g | g
  ·rcases q6.new k g with g | g
   ·exact .inl (hsub k g)
   ·exact .inr g
  ·exact .inl g.1
def q5w (P : Program) (f : FuncId) (R : HR) : Prop := q9n P f ∧ ∀ (base : Nat) (S : Nat → Prop) us H k,R us H k → q9u P base S f us H k
def j1y : List (Nat × HR) → Ent
 | [],_,_,_,_ => False
 | (g,R) :: l,f,us,h,k => (f = g ∧ (R us h k ∨ seen R us h k)) ∨ j1y l f us h k
theorem q3z : ∀ base S,q9p P base S (j1y []) := fun _ _ _ _ _ _ h => h.elim
theorem q1z {g : Nat} {R : HR} {l : List (Nat × HR)} (h : q5w P g R) (hl : ∀ base S,q9p P base S (j1y l)) : ∀ base S,q9p P base S (j1y ((g,R) :: l)) := fun base S f us H k hk => by
 rcases hk with ⟨rfl,hk | hk⟩ | hk
 ·exact ⟨h.1,h.2 base S us H k hk⟩
 ·exact ⟨h.1,j4l h.2 hk⟩
 ·exact hl base S f us H k hk
theorem qMe {f : Nat} {R : HR} {us : List U} {h : q1f} {k : U → q1f → Prop} (hk : R us h k ∨ seen R us h k) : ∀ {l : List (Nat × HR)},(f,R) ∈ l → j1y l f us h k
 | (g,R') :: l,hm => by
  rcases List.mem_cons.1 hm with e | e
  ·injection e with e1 e2
   subst e1 e2
   exact .inl ⟨rfl,hk⟩
  ·exact .inr (qMe hk e)
abbrev j2k (E : Ent) (f : FuncId) (R : HR) : Prop := ∀ us h k,R us h k ∨ seen R us h k → E f us h k
def ix (rs : List Nat) (id : Nat) : Nat := rs.idxOf id
def j0a (rs : List Nat) : U → Bool
 | .ptr i _ => rs.contains i
 | .pe i _ _ _ => rs.contains i
 | .sl i _ _ _ => rs.contains i
 | .agg us => us.all U.bare
 | .clo _ us => us.all U.bare
 | .tup _ => false
 | _ => true
def j3u (rs : List Nat) : Option Ob → Bool
 | some (.cells us) => us.all (j0a rs)
 | some _ => true
 | none => false
theorem qYn {rs : List Nat} {i : Nat} (h : rs.contains i = true) : rs[ix rs i]? = some i := by
 have hm : i ∈ rs := by simpa using h
 have hlt : rs.idxOf i < rs.length := List.idxOf_lt_length_iff.2 hm
 unfold ix
 rw [List.getElem?_eq_getElem hlt,List.getElem_idxOf]
theorem qOt {us : List U} (h : us.all U.bare = true) : us.all (qNc 0) = true := by
 rw [List.all_eq_true] at *
 intro u hu
 have := h u hu
 cases u <;> exact this
theorem qAf {r : Nat → Nat} : ∀ {us : List U},us.all U.bare = true → qBb.rens r us = us
 | [],_ => rfl
 | u :: us,h => by
  rw [List.all_cons,Bool.and_eq_true] at h
  show qBb r u :: qBb.rens r us = _
  rw [qAf h.2]
  congr 1
  cases u <;> first | rfl | (have := h.1; cases this)
theorem see_wk {rs : List Nat} {u : U} (h : j0a rs u = true) : wkU 0 rs u (qBb (ix rs) u) := by
 cases u with
 | ptr i off => exact ⟨i,qYn h,rfl⟩
 | pe i k x off => exact ⟨i,qYn h,rfl⟩
 | sl i n c k => exact ⟨i,qYn h,rfl⟩
 | agg us =>
  have e : qBb (ix rs) (.agg us) = .agg us := by show U.agg _ = _; rw [qAf h]
  rw [e]
  exact ⟨qOt h,rfl⟩
 | clo f us =>
  have e : qBb (ix rs) (.clo f us) = .clo f us := by show U.clo f _ = _; rw [qAf h]
  rw [e]
  exact ⟨qOt h,rfl⟩
 | tup us => cases h
 | lost => trivial
 | _ => rfl
theorem qLi {rs : List Nat} : ∀ {us : List U},us.all (j0a rs) = true → wkA 0 rs us (us.map (qBb (ix rs)))
 | [],_ => trivial
 | u :: us,h => by
  rw [List.all_cons,Bool.and_eq_true] at h
  exact ⟨see_wk h.1,qLi h.2⟩
theorem qWh {JS : List Nat} {h : q1f} : ∀ {rs : List Nat},(rs.all fun j => j3u JS (q0r h j)) = true → wkH 0 JS h rs (rs.map fun j => qEz (ix JS) (q0r h j))
 | [],_ => trivial
 | j :: rs,hc => by
  rw [List.all_cons,Bool.and_eq_true] at hc
  refine ⟨?_,qWh hc.2⟩
  show wkO 0 JS h j (qEz (ix JS) (q0r h j))
  cases e : q0r h j with
  | none => rw [e] at hc; exact absurd hc.1 (by simp [j3u])
  | some ob =>
   rw [e] at hc
   cases ob with
   | cells us => exact ⟨us,e,qLi hc.1⟩
   | row k xs => exact e
   | lim xs => exact e
theorem j3o {JS : List Nat} {h : q1f} {rs : List Nat} (hc : (rs.all fun j => j3u JS (q0r h j)) = true) : (rs.map fun j => qEz (ix JS) (q0r h j)).all qGn = true := by
 rw [List.all_eq_true] at *
 intro o ho
 obtain ⟨j,hj,rfl⟩ := List.mem_map.1 ho
 have := hc j hj
 cases e : q0r h j with
 | none => rw [e] at this; cases this
 | some ob => cases ob <;> rfl
def seeB (rs : List Nat) (us : List U) (h : q1f) : Bool := us.all (j0a rs) && (rs.all fun j => j3u rs (q0r h j)) && (rs.all fun j => decide (j < h.length)) && decide rs.Nodup
theorem see {R : HR} {us : List U} {h : q1f} {k : U → q1f → Prop} (rs : List Nat) (hk : R (us.map (qBb (ix rs))) (rs.map fun j => qEz (ix rs) (q0r h j)) fun u hs' => k (qBb (back rs h.length) u) (q9l rs h hs')) (hc : seeB rs us h = true := by rfl) : R us h k ∨ seen R us h k := by
 unfold seeB at hc
 simp only [Bool.and_eq_true,decide_eq_true_eq] at hc
 obtain ⟨⟨⟨h1,h2⟩,h3⟩,h4⟩ := hc
 exact .inr ⟨⟨0,rs,_,_,⟨qLi h1,qWh h2,h4,h3,j3o h2⟩,hk⟩⟩
def j1o (n : Nat) (k : U → q1f → Prop) (u : U) (h : q1f) : Prop := match u with
 | .tup [] => qUd n [] h fun _ h => k (.tup []) h
 | u => qUd n [u] h fun a h => match a with
  | [u] => k u h
  | _ => False
theorem j2a {f : FuncId} {us : List U} {H : q1f} {k : U → q1f → Prop} (h : q9u P base S f us H (j1o H.length k)) : q9u P base S f us H k := fun m W cs h1 h2 h3 h4 => (h m W cs h1 h2 h3 h4).mono fun e W' ⟨u,H',m',v,g1,g2,g3,g4,g5,g6⟩ => by
 unfold j1o at g1
 split at g1
 ·have hsat : Sat base S 0 [] H' m' { tmps := #[],defers := [] } W' := ⟨rfl,⟨rfl,rfl,fun t w hw ht => absurd ht (by omega),g4,Nat.le_trans h3 g6.size⟩,g5⟩
  obtain ⟨a',H2,m2,q1,q2,q3⟩ := qIc g1 hsat g6 h2
  obtain ⟨vs,e1,e2⟩ := g3
  cases vs with
  | nil => exact ⟨.tup [],H2,m2,v,q1,g2,⟨[],e1,trivial⟩,q2.st.hp,q2.fresh,q3⟩
  | cons _ _ => exact e2.elim
 ·have htmp : ∀ (t : Nat) (w : U),Is [u] t w → t < 1 → Rep (q3o base S (own m' (q1q H'))) W' m' w ((#[v] : Array Value).getD t undef) := fun t w hw ht => by
   have e : t = 0 := by omega
   subst e
   injection hw with hw
   subst hw
   exact g3
  have hsat : Sat base S 1 [u] H' m' { tmps := #[v],defers := [] } W' := ⟨rfl,⟨rfl,rfl,htmp,g4,Nat.le_trans h3 g6.size⟩,g5⟩
  obtain ⟨a',H2,m2,q1,q2,q3⟩ := qIc g1 hsat g6 h2
  match a',q1,q2 with
  | [u'],q1,q2 => exact ⟨u',H2,m2,v,q1,g2,q2.st.tmp 0 u' rfl (by decide),q2.st.hp,q2.fresh,q3⟩
theorem q7c {f : FuncId} {fn : Func} {R : HR} (l : List (Nat × (List U → U → Prop))) (lh : List (Nat × HR)) (hl : ∀ f, q0w Tryz.prog f (orc l f)) (hlh : ∀ base S, q9p Tryz.prog base S (j1y lh)) (hf : Tryz.prog.funcs[f]? = some fn) (hname : (fn.name == "runtime.NumGoroutine") = false) (hb : fn.body.isSome = true)
  (hR : ∀ us h k,R us h k → ∃ rounds,∀ (C : Orc) (E : Ent),(∀ n R,(n,R) ∈ l → qNs C n R) → (∀ n R,(n,R) ∈ lh → j2k E n R) → body rounds (tab (lh.map (·.1))) C E fn us h (j1o h.length k)) : q5w Tryz.prog f R := by
 obtain ⟨b,hb⟩ := Option.isSome_iff_exists.1 hb
 refine ⟨⟨fn,b,hf,hname,hb⟩,fun base S us H k hk => ?_⟩
 obtain ⟨r,hr⟩ := hR us H k hk
 exact j2a (qMs ⟨mixed,qKx _,qDc _,hl⟩ (hlh base S) hf hb (hr _ _ (fun n R hm us u hu => qJw hm hu) fun n R hm us h k hk => qMe hk hm))
theorem j0l {f : FuncId} {fn : Func} {R : List U → U → Prop} (l : List (Nat × (List U → U → Prop))) (lh : List (Nat × HR)) (hl : ∀ f, q0w Tryz.prog f (orc l f)) (hlh : ∀ base S, q9p Tryz.prog base S (j1y lh)) (hf : Tryz.prog.funcs[f]? = some fn) (hname : (fn.name == "runtime.NumGoroutine") = false) (hb : fn.body.isSome = true)
  (hR : ∀ us u,R us u → ∃ rounds,∀ (C : Orc) (E : Ent),(∀ n R,(n,R) ∈ l → qNs C n R) → (∀ n R,(n,R) ∈ lh → j2k E n R) → body rounds (tab (lh.map (·.1))) C E fn us [] fun w H => shut w H fun w _ => w = u) : q0w Tryz.prog f R :=
 qIa ⟨mixed,qKx _,qDc _,hl⟩ hf hname hb fun us u h => by
  obtain ⟨r,hr⟩ := hR us u h
  exact ⟨r,_,hlh,hr _ _ (fun n R hm us u hu => qJw hm hu) fun n R hm us h k hk => qMe hk hm⟩
end
end Go.Proofs.YtjkcmnedolfkjaaGreat.Rd
end
