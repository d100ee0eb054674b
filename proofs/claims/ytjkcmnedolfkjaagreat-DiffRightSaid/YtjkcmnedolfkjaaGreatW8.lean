/- Part 8 of the proof. -/
import Derived.Test.YtjkcmnedolfkjaaGreatProg
import Derived.Laws.Tables
import Derived.Orders
import Derived.Below
import Derived.Deep.Draws
import Derived.Deep.AppendLies
import Derived.Maps.AppendAt
import Derived.OwnWalk
import Derived.Laws.BytesArg
import Derived.Laws.MakeOwn
import Derived.Laws.OwnMore
import Derived.Deep.OwnRows
import Derived.Tactics
import Derived.Lib.ConvBytes
import Derived.Laws.Slices
import Derived.WalkKit
import Derived.KernelRfl
import Derived.RowKit3
import Derived.Deep.LoopGhost
import Derived.Deep.QuietTactic
import Derived.BigQuiet
import Derived.WideLaws
import Derived.Deep.DeepCutAuto
import Derived.Deep.CutBlock
import Derived.Deep.RegionHeld3
import Derived.Laws.Rows
import Derived.Lib.AppendStr
import Derived.ArgAppend
import Derived.Laws.IdiomCopy
import Derived.RowKit
import Derived.OrdersHeld
import Derived.Laws.BitsLemmas
import Derived.Laws.Cells
import Derived.Great.BuildSlice
import Derived.Deep.Slices
import Derived.Laws.AppendOwn
import Derived.Laws.LoneSync
import Derived.LoopN
import Derived.Laws.StructEq
import Derived.Laws.Bits64b
import Derived.Laws.BitsAllLaws
import Derived.Test.YtjkcmnedolfkjaaGreatRows
import Derived.ProofKit
import Derived.OpenShut
import Derived.ShutString
import Derived.ChangeOld
import Derived.ChangeSame
import Derived.Lib.SmallJoins
import Derived.DataReads
import Derived.Conc.MuLone
import Derived.RegionTactic
import Derived.RegionCalls
import Derived.ChangeAlike
import Derived.SizedLaws
import Derived.Test.YtjkcmnedolfkjaaGreatW7
set_option linter.unusedVariables false
set_option linter.unusedSimpArgs false
section
namespace Go.Proofs.YtjkcmnedolfkjaaGreat.Num
open Go.ChangeShapes Go.WideShapes Go.ChangeAt Go.RowKit Go.Proofs.YtjkcmnedolfkjaaGreatW.PrintWords Go.Proofs.YtjkcmnedolfkjaaGreatW.PrintMore
set_option linter.unusedVariables false
def IsRow (k : IntKind) (w : World) (a : Option Addr) (len cap : Nat) (zs : List Int) : Prop :=
 (a = none ∧ len = 0 ∧ cap = 0 ∧ zs = []) ∨
 ∃ x,a = some x ∧ len ≤ cap ∧ cap ≤ maxLen ∧ zs.length = cap ∧ (∀ i,i < zs.length → w.cell? (x.add i) = some (.int k (zs.getD i 0))) ∧ ∀ n ∈ zs,(Lit.int k n).wf = true
theorem qMu : Tryz.prog.cellsOf 47 = 3 := by kernel_rfl
theorem j2t : Tryz.prog.cellsOf 45 = 2 := by kernel_rfl
theorem qVq : Tryz.prog.cellsOf 43 = 1 := by kernel_rfl
theorem cells4 : Tryz.prog.cellsOf 4 = 1 := by kernel_rfl
structure Row (W : World) (v : Value) (l : List Int) : Prop where
 out : ∃ A c,v = .slice A l.length c ∧ l.length ≤ c ∧ Kd.C (Kd.int .u32) W A l.length l
 limbs : q0i l
 len : l.length < 9223372036854775808
theorem j0r {H : Type} {enc : TypeId × Value → H} {W : World} {base : Nat} {held : Bool} {n : Nat} {c : Value} {y : DataW H × List MemPlace} (h : DataW.trod enc Tryz.prog W base (fun _ => true) held n 43 [c] = some y) :
  ∃ l,Row W c l := by
 have key : ∃ a len cap zs,c = .slice a len cap ∧ IsRow .u32 W a len cap zs := by
  rcases open_ints Tryz.underlying43 Tryz.underlying88 (by kernel_rfl) h with ⟨hcs,_⟩ | ⟨x,l,c,zs,hcs,_,hl,hm,hz,_,hcell,hwz⟩
  ·simp at hcs
   exact ⟨none,0,0,[],hcs,.inl ⟨rfl,rfl,rfl,rfl⟩⟩
  ·simp at hcs
   exact ⟨some x,l,c,zs,hcs,.inr ⟨_,rfl,hl,hm,by simpa using hz,hcell,hwz⟩⟩
 obtain ⟨a,len,cap,zs,rfl,hrow⟩ := key
 have hw : ∀ w0 : (a = none ∧ len = 0 ∧ cap = 0 ∧ zs = []) ∨ ∃ x,a = some x ∧ len ≤ cap ∧ cap ≤ maxLen ∧ zs.length = cap ∧ (∀ i,i < zs.length → W.cell? (x.add i) = some (.int .u32 (zs.getD i 0))) ∧ ∀ n ∈ zs,(Lit.int .u32 n).wf = true,∃ l,Row W (.slice a len cap) l := by
  intro w0
  obtain ⟨l0,rfl,hr0,hm0,hw0,hc0⟩ := q2e.ofRowC w0
  unfold maxLen at hm0
  refine ⟨l0,⟨a,cap,rfl,hc0,Kd.C_of_reads (d := (0 : Int)) (h1 := fun _ => rfl) hr0⟩,fun x hx => ?_,by omega⟩
  have := hw0 x hx
  have h2 : (decide (IntKind.u32.min ≤ x) && decide (x ≤ IntKind.u32.max)) = true := this
  rw [Bool.and_eq_true,decide_eq_true_eq,decide_eq_true_eq] at h2
  have ea : IntKind.u32.min = 0 := by decide
  have eb : IntKind.u32.max = 4294967295 := by decide
  omega
 exact hw hrow
theorem qSz {W : World} {A : Option Addr} {c : Nat} {l : List Int} (h1 : l.length ≤ c) (h2 : Kd.C (Kd.int .u32) W A l.length l) : Rd.Rep (fun k => k < W.heap.size) W Rd.noM (.l l) (.slice A l.length c) :=
 ⟨A,c,rfl,h1,Kd.C_F (Kd.heap_int _) h2⟩
end Go.Proofs.YtjkcmnedolfkjaaGreat.Num
end
section
namespace Go.Proofs.YtjkcmnedolfkjaaGreat.Num
open Go.Deep Go.ChangeShapes Go.WideShapes Go.ChangeAt Go.RowKit Go.Proofs.YtjkcmnedolfkjaaGreatW.PrintWords Go.Proofs.YtjkcmnedolfkjaaGreatW.PrintMore Go.Proofs.YtjkcmnedolfkjaaGreat.Rd
set_option linter.unusedVariables false
set_option maxRecDepth 100000
theorem qRu {W : World} {a : Addr} {y : Value} (h : W.cell? a = some y) : Foot (fun W => W.cell? a = some y) W (fun k => k < W.heap.size) := fun W' hW' => by
 have hb : a.block < W.heap.size := by
  rcases Nat.lt_or_ge a.block W.heap.size with hb | hb
  ·exact hb
  ·unfold World.cell? at h
   rw [Array.getElem?_eq_none hb] at h
   cases h
 show W'.cell? a = some y
 unfold World.cell? at h ⊢
 rw [hW' a.block hb hb]
 exact h
theorem qNp {W : World} : ∀ {us : List U} {cs : List Value} {a : Addr},(∀ i,i < cs.length → W.cell? (a.add i) = cs[i]?) → Reps (fun k => k < W.heap.size) W noM us cs → (∀ v ∈ cs,v.oneCell' = true) → Cells (fun k => k < W.heap.size) W a us
 | [],[],_,_,_,_ => trivial
 | u :: us,c :: cs,a,h,hr,ho => by
  refine ⟨⟨c,qRu ?_,hr.1,ho c (List.mem_cons_self ..)⟩,qNp (fun i hi => ?_) hr.2 fun v hv => ho v (List.mem_cons_of_mem _ hv)⟩
  ·have := h 0 (by simp)
   rwa [Addr.add_zero',List.getElem?_cons_zero] at this
  ·have := h (i + 1) (by simp; omega)
   rw [List.getElem?_cons_succ] at this
   rw [Addr.add_add,Nat.add_comm 1 i]
   exact this
 | [],_ :: _,_,_,hr,_ => hr.elim
 | _ :: _,[],_,_,hr,_ => hr.elim
theorem qSp {α : Type} {W : World} (f : α → List U) (Q : α → Prop) (k : Nat) : ∀ (n : Nat) (a : Addr),(∀ i,i < n → ∃ x,Q x ∧ Cells (fun k => k < W.heap.size) W (a.add (i * k)) (f x) ∧ (f x).length = k) → ∃ xs : List α,xs.length = n ∧ Rws (fun k => k < W.heap.size) W k a (xs.map f) ∧ ∀ x ∈ xs,Q x
 | 0,_,_ => ⟨[],rfl,trivial,fun x hx => by cases hx⟩
 | n + 1,a,h => by
  obtain ⟨x,q,hc,hl⟩ := h 0 (by omega)
  rw [Nat.zero_mul,Addr.add_zero'] at hc
  obtain ⟨xs,e,hr,hq⟩ := qSp f Q k n (a.add k) fun i hi => by
   obtain ⟨y,qy,hy,hly⟩ := h (i + 1) (by omega)
   refine ⟨y,qy,?_,hly⟩
   rw [Addr.add_add,show k + i * k = (i + 1) * k by rw [Nat.succ_mul,Nat.add_comm]]
   exact hy
  exact ⟨x :: xs, by simp [e], ⟨hc, hl, hr⟩, fun y hy => by
   rcases List.mem_cons.1 hy with rfl | hy
   ·exact q
   ·exact hq y hy⟩
theorem qTz : Tryz.prog.cellsOf 49 = 7 := by kernel_rfl
theorem cells3 : Tryz.prog.cellsOf 3 = 1 := by kernel_rfl
theorem qIs {H : Type} {enc : TypeId × Value → H} {W : World} {base : Nat} {held : Bool} {n : Nat} {cs : List Value} {y : DataW H × List MemPlace} (h : DataW.trod enc Tryz.prog W base (fun _ => true) held n 47 cs = some y) :
  ∃ q : R3,LB q ∧ Reps (fun k => k < W.heap.size) W noM (qU q) cs ∧ (∀ v ∈ cs,v.oneCell' = true) ∧ cs.length = 3 := by
 obtain ⟨y0,y1,n,_,hl,h0,h1⟩ := trod_struct2 Tryz.underlying47 h
 rw [qMu] at hl
 match cs,hl with
 | [c0,c1,c2],hl =>
  simp only [j2t,qVq,List.drop_zero] at h0 h1
  obtain ⟨z0,z1,m,_,_,g0,g1⟩ := trod_struct2 Tryz.underlying45 h0
  simp only [cells4,qVq,List.drop_zero] at g0 g1
  obtain ⟨l1,r1⟩ := j0r (c := c1) (by simpa using g1)
  obtain ⟨l2,r2⟩ := j0r (c := c2) (by simpa using h1)
  obtain ⟨b,e,_⟩ := DataW.trod_bool Tryz.underlying4 g0
  simp at e
  subst e
  obtain ⟨A1,k1,rfl,p1,p2⟩ := r1.out
  obtain ⟨A2,k2,rfl,p3,p4⟩ := r2.out
  refine ⟨(b,l1,l2),⟨r1.limbs,r2.limbs,r1.len,r2.len⟩,⟨rfl,qSz p1 p2,qSz p3 p4,trivial⟩,?_,rfl⟩
  intro v hv
  simp only [List.mem_cons,List.not_mem_nil,or_false] at hv
  rcases hv with rfl | rfl | rfl <;> rfl
theorem wf64 {n : Int} (h : (Lit.int .i64 n).wf = true) : in64 n := by
 have h2 : (decide (IntKind.i64.min ≤ n) && decide (n ≤ IntKind.i64.max)) = true := h
 rw [Bool.and_eq_true,decide_eq_true_eq,decide_eq_true_eq] at h2
 have ea : IntKind.i64.min = -9223372036854775808 := by decide
 have eb : IntKind.i64.max = 9223372036854775807 := by decide
 unfold in64
 omega
theorem qQi {H : Type} {enc : TypeId × Value → H} {W : World} {base : Nat} {held : Bool} {n : Nat} {cs : List Value} {y : DataW H × List MemPlace} (h : DataW.trod enc Tryz.prog W base (fun _ => true) held n 49 cs = some y) :
  ∃ t : Tm,TmOk t ∧ Reps (fun k => k < W.heap.size) W noM (tU t) cs ∧ (∀ v ∈ cs,v.oneCell' = true) ∧ cs.length = 7 := by
 obtain ⟨xs,n,_,_,hl,hxs,hf⟩ := DataW.trod_struct Tryz.underlying49 h
 rw [qTz] at hl
 have h0 := hf 0 _ rfl
 have h1 := hf 1 _ rfl
 have h2 := hf 2 _ rfl
 have h3 := hf 3 _ rfl
 have h4 := hf 4 _ rfl
 match cs,hl,xs,hxs with
 | [c0,c1,c2,c3,c4,c5,c6],hl,[x0,x1,x2,x3,x4],_ =>
  simp [cells3,qMu] at h0 h1 h2 h3 h4
  obtain ⟨k,e0,_,w0⟩ := DataW.trod_int Tryz.underlying3 h0
  obtain ⟨a,e1,_,w1⟩ := DataW.trod_int Tryz.underlying3 h1
  obtain ⟨b,e2,_,w2⟩ := DataW.trod_int Tryz.underlying3 h2
  obtain ⟨m,e3,_,w3⟩ := DataW.trod_int Tryz.underlying3 h3
  simp at e0 e1 e2 e3
  subst e0 e1 e2 e3
  obtain ⟨q,hq,hr,ho,_⟩ := qIs h4
  refine ⟨⟨k,a,b,m,q⟩,⟨wf64 w0,wf64 w1,wf64 w2,wf64 w3,hq⟩,⟨rfl,rfl,rfl,rfl,hr⟩,?_,rfl⟩
  intro v hv
  simp only [List.mem_cons,List.not_mem_nil,or_false] at hv ho
  rcases hv with rfl | rfl | rfl | rfl | hv
  ·rfl
  ·rfl
  ·rfl
  ·rfl
  ·exact ho v hv
theorem qPj {H : Type} {enc : TypeId × Value → H} {W : World} {α : Type} {f : α → List U} {Q : α → Prop} {k t e : Nat} {v : Value} {d : DataW H} {p : List MemPlace} {a0 : Option Addr} {l0 c0 : Nat} (hv : v = .slice a0 l0 c0) (ht : Tryz.prog.underlying t = some (.slice e)) (hk : Tryz.prog.cellsOf e = k)
  (he : ∀ {n : Nat} {cs : List Value} {y : DataW H × List MemPlace},DataW.trod enc Tryz.prog W 0 (fun _ => true) true n e cs = some y → ∃ x : α,Q x ∧ Reps (fun k => k < W.heap.size) W noM (f x) cs ∧ (∀ v ∈ cs,v.oneCell' = true) ∧ cs.length = k)
  (hfl : ∀ x,(f x).length = k) (h : DataW.Trod enc Tryz.prog W 0 (fun _ => true) true t v d p) :
  ∃ xs : List α,(∀ x ∈ xs,Q x) ∧ cnt xs ≤ 9223372036854775807 ∧ Rep (fun k => k < W.heap.size) W noM (.s k (xs.map f)) v := by
 subst hv
 obtain ⟨fuel,hf⟩ := h
 rcases open_slice ht hf with ⟨h1,h2⟩ | ⟨a,len,cap,m,n,D,Pl,hcs,hb,hl,hm,hmm,_,hx⟩
 ·have : (Value.slice a0 l0 c0).cells.toList = [Value.slice a0 l0 c0] := rfl
  rw [this] at h1
  injection h1 with h1 _
  rw [h1]
  exact ⟨[],fun x hx => (by cases hx),(by unfold cnt; simp),none,0,rfl,Nat.le_refl _,.inl rfl⟩
 ·have : (Value.slice a0 l0 c0).cells.toList = [Value.slice a0 l0 c0] := rfl
  rw [this] at hcs
  injection hcs with hcs _
  rw [hcs]
  obtain ⟨xs,e1,hr,hq⟩ := qSp f Q k len a fun i hi => by
   obtain ⟨cs,g1,g2⟩ := hx i (by rw [hmm]; simp; omega)
   obtain ⟨x,q,hr,ho,hlen⟩ := he g2
   obtain ⟨_,_,g3⟩ := World.cells?_some g1
   rw [hk] at g3
   exact ⟨x,q,qNp (fun i hi => g3 i (by omega)) hr ho,hfl x⟩
  unfold maxLen at hm
  refine ⟨xs,hq,by unfold cnt; omega,some a,cap,by rw [List.length_map,e1],by rw [List.length_map,e1]; exact hl,?_⟩
  exact .inr ⟨a,rfl,hr⟩
theorem qVk {H : Type} {enc : TypeId × Value → H} {W : World} {b0 : Nat} {r : Reach} {v : Value} {d : DataW H} {p : List MemPlace} (hv : Value.okWide Tryz.prog W r b0 38 v) (h : DataW.Trod enc Tryz.prog W 0 (fun _ => true) true 38 v d p) :
  ∃ xs : List R3,(∀ x ∈ xs,LB x) ∧ cnt xs ≤ 9223372036854775807 ∧ Rep (fun k => k < W.heap.size) W noM (qsU xs) v := by
 obtain ⟨a,n,c,e⟩ := okWide_slice Tryz.underlying38 hv
 exact qPj e Tryz.underlying38 qMu (fun h => qIs h) (fun _ => rfl) h
theorem qRl {H : Type} {enc : TypeId × Value → H} {W : World} {b0 : Nat} {r : Reach} {v : Value} {d : DataW H} {p : List MemPlace} (hv : Value.okWide Tryz.prog W r b0 23 v) (h : DataW.Trod enc Tryz.prog W 0 (fun _ => true) true 23 v d p) :
  ∃ c : List Tm,(∀ t ∈ c,TmOk t) ∧ cnt c ≤ 9223372036854775807 ∧ Rep (fun k => k < W.heap.size) W noM (cU c) v := by
 obtain ⟨a,n,c,e⟩ := okWide_slice Tryz.underlying23 hv
 exact qPj e Tryz.underlying23 qTz (fun h => qQi h) (fun _ => rfl) h
end Go.Proofs.YtjkcmnedolfkjaaGreat.Num
end
section
namespace Go.Proofs.YtjkcmnedolfkjaaGreat.diffRight
open Go.ChangeShapes Go.WideShapes Go.ChangeAt Go.RowKit Go.Proofs.YtjkcmnedolfkjaaGreatW.PrintWords Go.Proofs.YtjkcmnedolfkjaaGreatW.PrintMore Go.Proofs.YtjkcmnedolfkjaaGreat.Num Go.Proofs.YtjkcmnedolfkjaaGreat.Rd
set_option linter.unusedVariables false
theorem own : ownKnob Tryz.prog.godebug = none := by kernel_rfl
theorem laidOut : laidOutB Tryz.prog = true := by kernel_rfl
theorem in_u8 {n : Int} (h : (Lit.int .u8 n).wf = true) : 0 ≤ n ∧ n ≤ 255 := by
 have h2 : (decide (IntKind.u8.min ≤ n) && decide (n ≤ IntKind.u8.max)) = true := h
 rw [Bool.and_eq_true,decide_eq_true_eq,decide_eq_true_eq] at h2
 have ea : IntKind.u8.min = 0 := by decide
 have eb : IntKind.u8.max = 255 := by decide
 omega
set_option maxRecDepth 100000 in
theorem lifted (os : Os) (started : os.Started) (H : Type) (enc : TypeId × Value → H) :
  ReturnsInHanded {} Tryz.checked os 4 .any (Rows.diffRightSpec.pre6 enc Tryz.prog Tryz.f4 Rows.diffRightRow.domain false) (Rows.diffRightSpec.post enc Tryz.prog Tryz.f4 false true false false) := by
 refine returnsInHanded_of_change_sized (C := Tryz.checked) own started (by kernel_rfl) Tryz.func4
  (ChangeSpec.witness6 (enc := enc) (C := Tryz.checked) false ⟨#[],#[.slice none 0 0,.int .u8 0,.slice none 0 0],[]⟩ 8 (by kernel_rfl) (by kernel_rfl) (by kernel_rfl) (by kernel_rfl)) ?_
 intro W base args ds gs before hval0 hW hcnd hsz0 _
 have hval : ∀ (j : Nat) t v,Tryz.f4.params[j]? = some t → args[j]? = some v → Value.okWide Tryz.prog W .any base t v := hval0
 have hW' := hW
 obtain ⟨p,q,hA0,hV,rfl,hfz,hnd⟩ := hW
 have hA : DataW.TrodAll enc Tryz.prog W 0 (fun _ => true) true Tryz.f4.params.toList args.toList ds p := hA0
 rw [Tryz.params4] at hA hval
 obtain ⟨v0,vs0,d0,ds0,p0,q0,hargs,rfl,rfl,h0,r0⟩ := trodAll_cons hA
 obtain ⟨v1,vs1,d1,ds1,p1,q1,rfl,rfl,rfl,h1,r1⟩ := trodAll_cons r0
 obtain ⟨v2,vs2,d2,ds2,p2,q2,rfl,rfl,rfl,h2,r2⟩ := trodAll_cons r1
 obtain ⟨rfl,rfl,rfl⟩ := trodAll_nil r2
 obtain rfl : args = #[v0,v1,v2] := by cases args; simp_all
 obtain ⟨rfl,rfl⟩ := trodVars_none hV
 have k0 := h0
 have lt0 : ∀ x ∈ p0,x.block < W.heap.size := by obtain ⟨m,hm⟩ := k0; exact DataW.trod_lt m _ _ _ hm
 have k2 := h2
 have lt2 : ∀ x ∈ p2,x.block < W.heap.size := by obtain ⟨m,hm⟩ := k2; exact DataW.trod_lt m _ _ _ hm
 obtain ⟨c0,hc0,hn0,hr0⟩ := qRl (hval 0 23 v0 rfl rfl) h0
 obtain ⟨a1,rfl,rfl,rfl,w1⟩ := open_int Tryz.underlying5 (hval 1 5 v1 rfl rfl) h1
 obtain ⟨c2,hc2,hn2,hr2⟩ := qVk (hval 2 38 v2 rfl rfl) h2
 clear hA0 hval0 hsz0
 have hrep : Rd.Reps (fun k => k < W.heap.size) W Rd.noM [cU c0,.v (.int .u8 a1),qsU c2] [v0,.int .u8 a1,v2] := ⟨hr0,rfl,hr2,trivial⟩
 refine ((qXh _ _ ⟨c0,a1,c2,hc0,hn0,(in_u8 w1).1,(in_u8 w1).2,hc2,hn2,rfl,rfl⟩).2 W _ _ hrep).mono fun e W' ⟨v,he,hv,bel⟩ => ?_
 obtain rfl := hv
 subst he
 exact ⟨_,rfl,_,_,_,[],_,[],hW',trodAll_mk1 (shut_bool Tryz.underlying4 _),(trodAll_cons_mk (Below.trod laidOut (by kernel_rfl) (of_decide_eq_true (by kernel_rfl)) k0 bel lt0) (trodAll_cons_mk (shut_int Tryz.underlying5 w1) (trodAll_cons_mk (Below.trod laidOut (by kernel_rfl) (of_decide_eq_true (by kernel_rfl)) k2 bel lt2) (trodAll_mk0)))),rfl,bel.frame _,fun h => by cases h⟩
theorem over : Rows.diffRightRow.holds Tryz.pinned (OpenSpec.ofChange Rows.diffRightSpec) :=
 OpenClaim.holds_of_wide 4 Tryz.f4 rfl rfl rfl rfl rfl rfl rfl ⟨rfl,rfl,rfl,rfl,rfl⟩ rfl rfl rfl rfl rfl (by kernel_rfl) Tryz.func4 (by kernel_rfl)
  (of_decide_eq_true (by kernel_rfl)) (by unfold Func.isWrapper; (rw [if_neg (by decide +kernel)]; exact ⟨rfl,rfl⟩))
  (fun os started H enc _ => lifted os started H enc)
theorem proved : Rows.DiffRightSaid := over
end Go.Proofs.YtjkcmnedolfkjaaGreat.diffRight
end
